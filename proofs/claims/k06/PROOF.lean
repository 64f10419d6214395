import PyProof.Rows.All
import Wide.All
import OpenK.AllK
import Wide.FinOn
import HandS.ForMost
import HandS.ForExc
import HandS.CallSlots
import HandS.TupAny
import HandS.Deep
import HandS.Style
import HandS.IsInst
import HandS.DictComp
import HandS.Property
import HandS.ClsMeth
import HandS.More
import HandS.Star
import HandS.Zip
import HandS.SortInts
import HandS.Strs
import HandS.Wide
import HandS.FStr
import HandS.SetFor
import HandS.WideBits
import PyProof.FactsAll.dict_1
import PyProof.FactsAll.subtypes_3
import PyProof.FactsAll.subtypes_4
import PyProof.EnumMake
import KE.GoesMore
import KE.KCallOwn
import KE.KOpsOwn
import HandS.EndBits
import HandS.ExcInit
import HandS.Conv
import HandS.HotCalls
import KE.KExcIs
import PyProof.Rows.StrCase
import PyProof.ReprBulk
import PySem.Challenge.RW_pairkinds_k06_ties_in_rules
/-! Core: data by value, a memory of cells, a small IR and its evaluator (plain Lean, nothing of the kit). -/
set_option linter.all false
namespace Pk

/-- a text: its codes -/
abbrev Cs := List Nat

inductive D where
  | non
  | bl (b : Bool)
  | int (i : Int)
  | str (s : Cs)
  | tup (xs : List D)
  | lst (xs : List D)
  | dict (ks vs : List D)
  | ins (c : String) (ns : List String) (vs : List D)
  | ref (k : Nat)
  /-- the script: a list that is read alone -/
  | scr (xs : List D)
  /-- an own class -/
  | cls (c : String)

instance : Inhabited D := ⟨.non⟩

inductive Cell where
  | lst (xs : List D)
  | ins (c : String) (ns : List String) (vs : List D)

abbrev Mem := List Cell

inductive Res (α : Type) where
  | ok (a : α) (M : Mem)
  | err (e : D) (M : Mem)
  | stuck

def bnd {α β : Type} (x : Res α) (f : α → Mem → Res β) : Res β :=
  match x with
  | .ok a M => f a M
  | .err e M => .err e M
  | .stuck => .stuck
@[simp] theorem bnd_ok {α β : Type} (a : α) (M : Mem) (f : α → Mem → Res β) : bnd (.ok a M) f = f a M := rfl
@[simp] theorem bnd_err {α β : Type} (e : D) (M : Mem) (f : α → Mem → Res β) : bnd (.err e M) f = .err e M := rfl
@[simp] theorem bnd_stuck {α β : Type} (f : α → Mem → Res β) : bnd (.stuck : Res α) f = .stuck := rfl

/-- what an argument list does -/
abbrev Fn := List D → Mem → Res D

/-! ### the IR -/
/-- targets of loops: a name, or a tuple of names -/
inductive Tg where
  | n (i : Nat)
  | t (is : List Nat)

mutual
inductive Ex where
  | var (i : Nat)
  /-- a name that holds a value, nothing owned -/
  | vvar (i : Nat)
  | const (d : D)
  | app (F : Fn) (as : Exs)
  | ite (c a b : Ex)
  | andV (a b : Ex)
  | orV (a b : Ex)
  | notV (a : Ex)
  /-- a < b < c -/
  | chain (F G : Fn) (a b c : Ex)
  /-- [el for tg in it if c] -/
  | comp (own : List Nat) (tg : Tg) (it : Ex) (c : Ex) (el : Ex)
  /-- [el for tg in it if c for tg2 in it2 if c2] -/
  | comp2 (own : List Nat) (tg : Tg) (it : Ex) (c : Ex) (own2 : List Nat) (tg2 : Tg) (it2 : Ex) (c2 : Ex) (el : Ex)
  /-- {k : v for tg in it if c} -/
  | dcomp (own : List Nat) (tg : Tg) (it : Ex) (c : Ex) (k v : Ex)
inductive Exs where
  | nil
  | cons (a : Ex) (r : Exs)
end

/-- what a name holds: nothing, a value, or a list (dict, instance) that this name alone holds -/
inductive Slot where
  | no
  | val (d : D)
  | own (d : D)
abbrev Env := List Slot

def Slot.get : Slot → Option D
  | .no => none
  | .val d => some d
  | .own d => some d

def slotAt (Γ : Env) (i : Nat) : Slot := Γ.getD i .no
/-- what is owned, held as a value (a dict: no more) -/
def Slot.thaw : Slot → Slot
  | .own (.dict _ _) => .no
  | .own d => .val d
  | s => s
def freeze (Γ : Env) : Env := Γ.map Slot.thaw
def getS (Γ : Env) (i : Nat) : Option D := (slotAt Γ i).get

def setN (Γ : Env) (i : Nat) (d : D) : Env := Γ.set i (.val d)
def setO (Γ : Env) (i : Nat) (d : D) : Env := Γ.set i (.own d)
def wipeE : Env → List Nat → Env
  | Γ, [] => Γ
  | Γ, i :: is => (wipeE Γ is).set i .no

def setNs : Env → List Nat → List D → Option Env
  | Γ, [], [] => some Γ
  | Γ, i :: is, d :: ds => setNs (setN Γ i d) is ds
  | _, _, _ => none

def asgTg : Tg → D → Env → Option Env
  | .n i, d, Γ => some (setN Γ i d)
  | .t is, .tup ds, Γ => setNs Γ is ds
  | .t _, _, _ => none

/-- what is walked -/
def items : D → Option (List D)
  | .lst xs => some xs
  | .tup xs => some xs
  | .str s => if s.length ≤ 1000000 then some (s.map fun c => .str [c]) else none
  | .dict ks _ => some ks
  | _ => none

/-- no error leaves a comprehension -/
def noErr {α : Type} (x : Res α) : Res α :=
  match x with
  | .ok a M => .ok a M
  | _ => .stuck
@[simp] theorem noErr_ok {α : Type} (a : α) (M : Mem) : noErr (.ok a M) = .ok a M := rfl
@[simp] theorem noErr_err {α : Type} (e : D) (M : Mem) : noErr (.err e M : Res α) = .stuck := rfl
@[simp] theorem noErr_stuck {α : Type} : noErr (.stuck : Res α) = .stuck := rfl

def compL (f : D → Mem → Res (List D)) : List D → Mem → Res (List D)
  | [], M => .ok [] M
  | x :: xs, M => bnd (f x M) fun ys M => bnd (compL f xs M) fun zs M => .ok (ys ++ zs) M

def asBool (d : D) (M : Mem) : Res Bool :=
  match d with
  | .bl b => .ok b M
  | _ => .stuck
@[simp] theorem asBool_bl (b : Bool) (M : Mem) : asBool (.bl b) M = .ok b M := rfl

/-- what may be a key -/
def isKey : D → Bool
  | .int _ => true
  | .str _ => true
  | _ => false
def keyEq : D → D → Bool
  | .int i, .int j => decide (i = j)
  | .str s, .str t => decide (s = t)
  | _, _ => false
/-- a key that comes again keeps its place and takes the later value -/
def dictPut (k v : D) (ks vs : List D) : List D × List D :=
  if ks.any (fun k' => keyEq k' k) then (ks, List.zipWith (fun k' v' => if keyEq k' k then v else v') ks vs) else (ks ++ [k], vs ++ [v])
def putPair (p : List D × List D) (kv : D) : List D × List D := match kv with
  | .tup [y, z] => dictPut y z p.1 p.2
  | _ => p

mutual
/-- Python's == on data (bools are numbers) -/
def eqD : D → D → Bool
  | .non, .non => true
  | .bl a, .bl b => a == b
  | .bl a, .int j => decide ((if a then 1 else 0) = j)
  | .int i, .bl b => decide (i = (if b then 1 else 0))
  | .int i, .int j => decide (i = j)
  | .str x, .str y => decide (x = y)
  | .tup xs, .tup ys => eqDs xs ys
  | .lst xs, .lst ys => eqDs xs ys
  | _, _ => false
def eqDs : List D → List D → Bool
  | [], [] => true
  | x :: xs, y :: ys => eqD x y && eqDs xs ys
  | _, _ => false
end

mutual
def ev : Ex → Env → Mem → Res D
  | .var i, Γ, M => match getS Γ i with
    | some d => .ok d M
    | none => .stuck
  | .vvar i, Γ, M => match slotAt Γ i with
    | .val d => .ok d M
    | _ => .stuck
  | .const d, _, M => .ok d M
  | .app F as, Γ, M => bnd (evs as Γ M) F
  | .ite c a b, Γ, M => bnd (ev c Γ M) fun d M => bnd (asBool d M) fun t M => if t then ev a Γ M else ev b Γ M
  | .andV a b, Γ, M => bnd (ev a Γ M) fun d M => bnd (asBool d M) fun t M => if t then ev b Γ M else .ok (.bl false) M
  | .orV a b, Γ, M => bnd (ev a Γ M) fun d M => bnd (asBool d M) fun t M => if t then .ok (.bl true) M else ev b Γ M
  | .notV a, Γ, M => bnd (ev a Γ M) fun d M => bnd (asBool d M) fun t M => .ok (.bl (!t)) M
  | .chain F G a b c, Γ, M => bnd (ev a Γ M) fun x M => bnd (ev b Γ M) fun y M => bnd (F [x, y] M) fun d M => bnd (asBool d M) fun t M =>
      if t then bnd (ev c Γ M) fun z M => G [y, z] M else .ok (.bl false) M
  | .comp own tg it c el, Γ, M => bnd (ev it Γ M) fun d M => match items d with
    | none => .stuck
    | some ds => noErr (bnd (compL (fun x M => match asgTg tg x (wipeE Γ own) with
        | none => .stuck
        | some Γ1 => bnd (ev c Γ1 M) fun b M => bnd (asBool b M) fun t M => if t then bnd (ev el Γ1 M) fun y M => .ok [y] M else .ok [] M) ds M) fun ys M => .ok (.lst ys) M)
  | .comp2 own tg it c own2 tg2 it2 c2 el, Γ, M => bnd (ev it Γ M) fun d M => match items d with
    | none => .stuck
    | some ds => noErr (bnd (compL (fun x M => match asgTg tg x (wipeE Γ own) with
        | none => .stuck
        | some Γ1 => bnd (ev c Γ1 M) fun b M => bnd (asBool b M) fun t M => if t then
            bnd (ev it2 Γ1 M) fun d2 M => match items d2 with
              | none => .stuck
              | some ds2 => compL (fun x2 M => match asgTg tg2 x2 (wipeE Γ1 own2) with
                | none => .stuck
                | some Γ2 => bnd (ev c2 Γ2 M) fun b M => bnd (asBool b M) fun t M => if t then bnd (ev el Γ2 M) fun y M => .ok [y] M else .ok [] M) ds2 M
          else .ok [] M) ds M) fun ys M => if ys.length ≤ 1000000 then .ok (.lst ys) M else .stuck)
  | .dcomp own tg it c k v, Γ, M => bnd (ev it Γ M) fun d M => match items d with
    | none => .stuck
    | some ds => noErr (bnd (compL (fun x M => match asgTg tg x (wipeE Γ own) with
        | none => .stuck
        | some Γ1 => bnd (ev c Γ1 M) fun b M => bnd (asBool b M) fun t M => if t then bnd (ev k Γ1 M) fun y M => if isKey y then bnd (ev v Γ1 M) fun z M => .ok [.tup [y, z]] M else .stuck else .ok [] M) ds M)
        fun ys M => let r := ys.foldl putPair ([], []); .ok (.dict r.1 r.2) M)
def evs : Exs → Env → Mem → Res (List D)
  | .nil, _, M => .ok [] M
  | .cons a r, Γ, M => bnd (ev a Γ M) fun d M => bnd (evs r Γ M) fun ds M => .ok (d :: ds) M
end

/-! ### statements -/
mutual
/-- targets of assignments -/
inductive At where
  | n (i : Nat)
  /-- an owned name -/
  | o (i : Nat)
  /-- name[ix], the list owned by the name -/
  | so (i : Nat) (ix : Ex)
  /-- base[ix], a cell -/
  | sc (b : Ex) (ix : Ex)
  /-- base.f, an instance that is a cell -/
  | ac (cs : List String) (b : Ex) (f : String)
  /-- self.f, the instance owned by the name -/
  | ao (i : Nat) (f : String)
  | t (ts : Ats)
inductive Ats where
  | nil
  | cons (a : At) (r : Ats)
end

def Ats.len : Ats → Nat
  | .nil => 0
  | .cons _ r => r.len + 1

/-- a method that changes the list that a name owns: the list, the arguments; what it gives back, the list then -/
abbrev OwnM := D → List D → Option (D × D)

mutual
inductive Sm where
  | asg (t : At) (e : Ex)
  /-- a, b = x, y: all values, then all stores -/
  | par (ts : Ats) (es : Exs)
  /-- y = x where x owns its list: x owns it no more -/
  | move (i j : Nat)
  /-- nothing is claimed from here on -/
  | die
  /-- x.append(..) and the like -/
  | meth (i : Nat) (G : OwnM) (as : Exs)
  | ex (e : Ex)
  | ite (c : Ex) (a b : Sms)
  | for_ (tg : Tg) (it : Ex) (b : Sms)
  | ret (e : Ex)
  | brk
  | cont
  | pass
  | raise (e : Ex)
  /-- try: body, then the handlers: the classes caught, the slot of the name (none: no name), the suite -/
  | try_ (b : Sms) (hs : Hds)
inductive Sms where
  | nil
  | cons (s : Sm) (r : Sms)
inductive Hds where
  | nil
  | cons (is : D → Option Bool) (i : Option Nat) (b : Sms) (r : Hds)
end

inductive RS where
  | next (Γ : Env) (M : Mem)
  | ret (d : D) (M : Mem)
  | brk (Γ : Env) (M : Mem)
  | cont (Γ : Env) (M : Mem)
  | err (e : D) (Γ : Env) (M : Mem)
  | stuck

/-- a value, then a statement's rest -/
def vS {α : Type} (x : Res α) (Γ : Env) (f : α → Mem → RS) : RS :=
  match x with
  | .ok a M => f a M
  | .err e M => .err e Γ M
  | .stuck => .stuck
@[simp] theorem vS_ok {α : Type} (a : α) (M : Mem) (Γ : Env) (f : α → Mem → RS) : vS (.ok a M) Γ f = f a M := rfl
@[simp] theorem vS_err {α : Type} (e : D) (M : Mem) (Γ : Env) (f : α → Mem → RS) : vS (.err e M) Γ f = .err e Γ M := rfl
@[simp] theorem vS_stuck {α : Type} (Γ : Env) (f : α → Mem → RS) : vS (.stuck : Res α) Γ f = .stuck := rfl

/-- the place that an index of any sign means -/
def ixN (n : Nat) (i : Int) : Option Nat := if 0 ≤ i then (if i < n then some i.toNat else none) else if -(n : Int) ≤ i then some (i + n).toNat else none

def fget : List String → List D → String → Option D
  | n :: ns, v :: vs, f => if n = f then some v else fget ns vs f
  | _, _, _ => none
/-- a field stored: in its place, or behind -/
def fput : List String → List D → String → D → List String × List D
  | n :: ns, v :: vs, f, d => if n = f then (n :: ns, d :: vs) else
      let r := fput ns vs f d
      (n :: r.1, v :: r.2)
  | _, _, f, d => ([f], [d])

def ownSet (x : D) (i : D) (v : D) : Option D :=
  match x, i with
  | .lst xs, .int k => match ixN xs.length k with
    | some j => some (.lst (xs.set j v))
    | none => none
  | .dict ks vs, k => if isKey k then let r := dictPut k v ks vs; some (.dict r.1 r.2) else none
  | _, _ => none

def cellSet (c : Cell) (i : D) (v : D) : Option Cell :=
  match c, i with
  | .lst xs, .int k => match ixN xs.length k with
    | some j => some (.lst (xs.set j v))
    | none => none
  | _, _ => none

def asgAt : At → D → Env → Mem → RS
  | .n i, d, Γ, M => .next (setN Γ i d) M
  | .o i, d, Γ, M => .next (setO Γ i d) M
  | .so i ix, d, Γ, M => match slotAt Γ i with
    | .own (.lst xs) => vS (ev ix Γ M) Γ fun k M => match ownSet (.lst xs) k d with
      | some y => .next (setO Γ i y) M
      | none => .stuck
    | _ => .stuck
  | .sc b ix, d, Γ, M => vS (ev b Γ M) Γ fun r M => vS (ev ix Γ M) Γ fun k M => match r with
    | .ref a => match M[a]? with
      | some c => match cellSet c k d with
        | some c' => .next Γ (M.set a c')
        | none => .stuck
      | none => .stuck
    | _ => .stuck
  | .ac cs b f, d, Γ, M => vS (ev b Γ M) Γ fun r M => match r with
    | .ref a => match M[a]? with
      | some (.ins c ns vs) => if cs.contains c ∧ ns.length < 500 then let p := fput ns vs f d; .next Γ (M.set a (.ins c p.1 p.2)) else .stuck
      | _ => .stuck
    | _ => .stuck
  | .ao i f, d, Γ, M => match slotAt Γ i with
    | .own (.ins c ns vs) => let p := fput ns vs f d; .next (setO Γ i (.ins c p.1 p.2)) M
    | _ => .stuck
  | .t _, _, _, _ => .stuck

def asgAts : Ats → List D → Env → Mem → RS
  | .nil, [], Γ, M => .next Γ M
  | .cons a r, d :: ds, Γ, M => match asgAt a d Γ M with
    | .next Γ M => asgAts r ds Γ M
    | x => x
  | _, _, _, _ => .stuck

/-- behind an except suite: its name is gone, no error leaves it -/
def hdS (i : Option Nat) (x : RS) : RS := match i, x with
  | some i, .next Γ M => .next (Γ.set i .no) M
  | none, .next Γ M => .next Γ M
  | _, .ret d M => .ret d M
  | _, _ => .stuck

def forL (f : D → Env → Mem → RS) : List D → Env → Mem → RS
  | [], Γ, M => .next Γ M
  | x :: xs, Γ, M => match f x Γ M with
    | .next Γ M => forL f xs Γ M
    | .cont Γ M => forL f xs Γ M
    | .brk Γ M => .next Γ M
    | r => r

mutual
def evS : Sm → Env → Mem → RS
  | .asg (.t ts) e, Γ, M => vS (ev e Γ M) Γ fun d M => match d with
    | .tup ds => if ds.length = ts.len then asgAts ts ds Γ M else .stuck
    | _ => .stuck
  | .asg a e, Γ, M => vS (ev e Γ M) Γ fun d M => asgAt a d Γ M
  | .par ts es, Γ, M => vS (evs es Γ M) Γ fun ds M => asgAts ts ds Γ M
  | .move i j, Γ, M => match slotAt Γ j with
    | .own (.dict _ _) => .stuck
    | .own d => .next (setN (setN Γ j d) i d) M
    | .val d => .next (setN Γ i d) M
    | _ => .stuck
  | .die, _, _ => .stuck
  | .meth i G as, Γ, M => match slotAt Γ i with
    | .own (.lst xs) => vS (evs as Γ M) Γ fun ds M => match G (.lst xs) ds with
      | some (_, y) => .next (setO Γ i y) M
      | none => .stuck
    | _ => .stuck
  | .ex e, Γ, M => vS (ev e Γ M) Γ fun _ M => .next Γ M
  | .ite c a b, Γ, M => vS (ev c Γ M) Γ fun d M => vS (asBool d M) Γ fun t M => if t then evSs a Γ M else evSs b Γ M
  | .for_ tg it b, Γ, M => vS (ev it Γ M) Γ fun d M => match items d with
    | none => .stuck
    | some ds => forL (fun x Γ M => match asgTg tg x Γ with
      | none => .stuck
      | some Γ => evSs b Γ M) ds Γ M
  | .ret e, Γ, M => vS (ev e (freeze Γ) M) (freeze Γ) fun d M => .ret d M
  | .brk, Γ, M => .brk Γ M
  | .cont, Γ, M => .cont Γ M
  | .pass, Γ, M => .next Γ M
  | .raise e, Γ, M => vS (ev e Γ M) Γ fun d M => .err d Γ M
  | .try_ b hs, Γ, M => match evSs b Γ M with
    | .err e Γ M => evH hs e Γ M
    | r => r
def evSs : Sms → Env → Mem → RS
  | .nil, Γ, M => .next Γ M
  | .cons s r, Γ, M => match evS s Γ M with
    | .next Γ M => evSs r Γ M
    | x => x
def evH : Hds → D → Env → Mem → RS
  | .nil, e, Γ, M => .err e Γ M
  | .cons is i b r, e, Γ, M => match is e with
    | none => .stuck
    | some true => hdS i (match i with
      | some i => if i < Γ.length then evSs b (setN Γ i e) M else .stuck
      | none => evSs b Γ M)
    | some false => evH r e Γ M
end

/-- the slots at the entry: the parameters, then nothing -/
def start0 (n : Nat) (ds : List D) : Env := ds.map .val ++ List.replicate (n - ds.length) .no

/-- a def with so many parameters and slots -/
def fnSem (ps n : Nat) (b : Sms) : Fn := fun ds M =>
  if ds.length = ps then
    match evSs b (start0 n ds) M with
    | .ret d M => .ok d M
    | .next _ M => .ok .non M
    | .err e _ M => .err e M
    | _ => .stuck
  else .stuck

mutual
/-- the cell k does not stand within -/
def freeD (k : Nat) : D → Bool
  | .ref j => !(j == k)
  | .tup xs => freeDs k xs
  | .lst xs => freeDs k xs
  | .dict ks vs => freeDs k vs
  | .ins _ _ vs => freeDs k vs
  | .scr xs => freeDs k xs
  | _ => true
def freeDs (k : Nat) : List D → Bool
  | [] => true
  | x :: xs => freeD k x && freeDs k xs
end
def freeC (k : Nat) : Cell → Bool
  | .lst xs => freeDs k xs
  | .ins _ _ vs => freeDs k vs

/-- a new instance by its __init__, held as a cell while this runs; then a value -/
def mkV (c : String) (F : Fn) : Fn := fun ds M =>
  match F (.ref M.length :: ds) (M ++ [.ins c [] []]) with
  | .ok .non M' => match M'[M.length]? with
    | some (.ins c' ns vs) => if M'.length = M.length + 1 ∧ (M'.take M.length).all (freeC M.length) ∧ freeDs M.length vs then .ok (.ins c' ns vs) (M'.take M.length) else .stuck
    | _ => .stuck
  | .err e M' => if M'.length = M.length + 1 ∧ (M'.take M.length).all (freeC M.length) ∧ freeD M.length e then .err e (M'.take M.length) else .stuck
  | _ => .stuck
/-- .. it stays a cell -/
def mkC (c : String) (F : Fn) : Fn := fun ds M =>
  match F (.ref M.length :: ds) (M ++ [.ins c [] []]) with
  | .ok .non M' => .ok (.ref M.length) M'
  | .err e M' => .err e M'
  | _ => .stuck

end Pk

/-! Prims: what operators and built-ins do on data (plain Lean). A result `stuck` where the model's rules are not asked to say anything. -/
set_option linter.all false
namespace Pk

def lim : Nat := 1000000

/-- the operators of the program's own classes: class, dunder -/
abbrev Tab := String → String → Option Fn
def dunder (T : Tab) (m : String) (as : List D) (M : Mem) : Res D :=
  match as with
  | .ins c ns vs :: r => match T c m with
    | some F => F (.ins c ns vs :: r) M
    | none => .stuck
  | _ => .stuck

/-- no dict, instance or cell within, texts of signs, at most so deep -/
def pl : Nat → D → Bool
  | _, .non => true
  | _, .bl _ => true
  | _, .int _ => true
  | _, .str s => s.all (fun c => decide (c < 1114112))
  | n + 1, .tup xs => xs.all (pl n)
  | n + 1, .lst xs => xs.all (pl n)
  | _, _ => false

def tag : D → Nat
  | .non => 0
  | .bl _ => 1
  | .int _ => 1
  | .str _ => 2
  | .tup _ => 3
  | .lst _ => 4
  | .dict _ _ => 5
  | .ins _ _ _ => 6
  | .ref _ => 7
  | .scr _ => 8
  | .cls _ => 9

/-- ==, where it is known: data -/
def cmp (a b : D) : Option Bool := match a, b with
  | .str s, .str t => some (decide (s = t))
  | a, b => if pl 8 a && pl 8 b then some (eqD a b) else none
theorem cmp_if {a b : D} (h : ¬ ∃ s t, a = .str s ∧ b = .str t) : cmp a b = if pl 8 a && pl 8 b then some (eqD a b) else none := by
  unfold cmp
  split
  · exact absurd ⟨_, _, rfl, rfl⟩ h
  · rfl

def optB (o : Option Bool) (M : Mem) : Res D :=
  match o with
  | some b => .ok (.bl b) M
  | none => .stuck

def isDictD : D → Bool
  | .dict _ _ => true
  | _ => false
def isStrD : D → Bool
  | .str _ => true
  | _ => false
def inL (x : D) (ys : List D) : Option Bool :=
  if pl 8 x && ys.all (pl 8) then some (ys.any fun y => eqD y x) else if isDictD x && ys.all isStrD then some false else none

/-! ### operators -/
def pAdd (T : Tab) : Fn
  | [.int a, .int b], M => .ok (.int (a + b)) M
  | [.str a, .str b], M => if a.length + b.length ≤ lim then .ok (.str (a ++ b)) M else .stuck
  | [.lst a, .lst b], M => if a.length + b.length ≤ lim then .ok (.lst (a ++ b)) M else .stuck
  | [.tup a, .tup b], M => if a.length + b.length ≤ lim then .ok (.tup (a ++ b)) M else .stuck
  | as, M => dunder T "__add__" as M
def pSub (T : Tab) : Fn
  | [.int a, .int b], M => .ok (.int (a - b)) M
  | as, M => dunder T "__sub__" as M
def pMul : Fn
  | [.int a, .int b], M => if a.natAbs < 2 ^ 64 ∨ b.natAbs < 2 ^ 64 then .ok (.int (a * b)) M else .stuck
  | _, _ => .stuck
def pDiv : Fn
  | [.int a, .int b], M => if 0 < b ∧ b.toNat < 2 ^ 256 then .ok (.int (a / b)) M else .stuck
  | _, _ => .stuck
def pMod : Fn
  | [.int a, .int b], M => if 0 < b then .ok (.int (a % b)) M else .stuck
  | _, _ => .stuck
def pPow : Fn
  | [.int a, .int b], M => if 0 ≤ b ∧ b.toNat ≤ 1000 ∧ a.natAbs < 2 ^ 64 then .ok (.int (a ^ b.toNat)) M else .stuck
  | _, _ => .stuck
def pNeg : Fn
  | [.int a], M => .ok (.int (-a)) M
  | _, _ => .stuck
def pLt : Fn
  | [.int a, .int b], M => .ok (.bl (decide (a < b))) M
  | _, _ => .stuck
def pLe : Fn
  | [.int a, .int b], M => .ok (.bl (decide (a ≤ b))) M
  | _, _ => .stuck
def pGt : Fn
  | [.int a, .int b], M => .ok (.bl (decide (b < a))) M
  | _, _ => .stuck
def pGe : Fn
  | [.int a, .int b], M => .ok (.bl (decide (b ≤ a))) M
  | _, _ => .stuck
def pEq (T : Tab) : Fn
  | [.ins c ns vs, b], M => dunder T "__eq__" [.ins c ns vs, b] M
  | [a, b], M => optB (cmp a b) M
  | _, _ => .stuck
def negB (x : Res D) : Res D := bnd x fun d M => bnd (asBool d M) fun b M => .ok (.bl (!b)) M
def pNe (T : Tab) : Fn := fun as M => negB (pEq T as M)
def pIn (T : Tab) : Fn
  | [x, .lst ys], M => optB (inL x ys) M
  | [x, .tup ys], M => optB (inL x ys) M
  | [.str [c], .str s], M => .ok (.bl (decide (c ∈ s))) M
  | [x, .ins c ns vs], M => dunder T "__contains__" [.ins c ns vs, x] M
  | _, _ => .stuck
def pNotIn (T : Tab) : Fn := fun as M => negB (pIn T as M)
def isNonD : D → Bool
  | .non => true
  | _ => false
/-- x is None -/
def pIsN : Fn
  | [x, .non], M => .ok (.bl (isNonD x)) M
  | _, _ => .stuck
def pNotN : Fn
  | [x, .non], M => .ok (.bl (!isNonD x)) M
  | _, _ => .stuck

/-! ### subscripts -/
def atI {α : Type} (xs : List α) (i : Int) : Option α :=
  match ixN xs.length i with
  | some j => xs[j]?
  | none => none
def optD (o : Option D) (M : Mem) : Res D :=
  match o with
  | some d => .ok d M
  | none => .stuck
def dictGet (k : D) : List D → List D → Option D
  | k' :: ks, v :: vs => if keyEq k' k then some v else dictGet k ks vs
  | _, _ => none
def pIx : Fn
  | [.lst xs, .int i], M => optD (atI xs i) M
  | [.tup xs, .int i], M => optD (atI xs i) M
  | [.str s, .int i], M => if s.length ≤ lim then (match atI s i with
    | some c => .ok (.str [c]) M
    | none => .stuck) else .stuck
  | [.dict ks vs, k], M => if isKey k then optD (dictGet k ks vs) M else .stuck
  | [.ref a, .int i], M => match M[a]? with
    | some (.lst xs) => optD (atI xs i) M
    | _ => .stuck
  | [.scr xs, .int i], M => optD (atI xs i) M
  | _, _ => .stuck
/-- a slice's bound as a place among n -/
def sIx (n d : Nat) : Option Int → Nat
  | none => d
  | some v => if v < 0 then (v + n).toNat else min v.toNat n
def cut {α : Type} (xs : List α) (lo hi : Option Int) : List α := (xs.drop (sIx xs.length 0 lo)).take (sIx xs.length xs.length hi - sIx xs.length 0 lo)
def cutD (x : D) (lo hi : Option Int) : Option D :=
  match x with
  | .lst xs => some (.lst (cut xs lo hi))
  | .scr xs => some (.lst (cut xs lo hi))
  | .tup xs => some (.tup (cut xs lo hi))
  | .str s => if s.length ≤ lim then some (.str (cut s lo hi)) else none
  | _ => none
/-- an int -/
def pI : Fn
  | [.int i], M => .ok (.int i) M
  | _, _ => .stuck
/-- x[lo:hi]; which of the bounds are written -/
def pSl (l h : Bool) : Fn := fun as M =>
  match l, h, as with
  | false, false, [x] => optD (cutD x none none) M
  | true, false, [x, .int a] => optD (cutD x (some a) none) M
  | false, true, [x, .int b] => optD (cutD x none (some b)) M
  | true, true, [x, .int a, .int b] => optD (cutD x (some a) (some b)) M
  | _, _, _ => .stuck
/-- x[::-1] -/
def pRev : Fn
  | [.lst xs], M => .ok (.lst xs.reverse) M
  | [.tup xs], M => .ok (.tup xs.reverse) M
  | _, _ => .stuck

/-- a list that a name owns, walked -/
def pOwnL : Fn
  | [.lst xs], M => .ok (.lst xs) M
  | _, _ => .stuck

/-! ### displays -/
def pTup : Fn := fun ds M => .ok (.tup ds) M
def pLst : Fn := fun ds M => .ok (.lst ds) M
def pDict0 : Fn := fun _ M => .ok (.dict [] []) M
/-- what is spliced -/
def pSeq : Fn
  | [.lst xs], M => .ok (.lst xs) M
  | [.tup xs], M => .ok (.tup xs) M
  | _, _ => .stuck
/-- [a, *b]: which parts are sequences -/
def splice : List Bool → List D → Option (List D)
  | [], [] => some []
  | false :: fl, d :: ds => match splice fl ds with
    | some xs => some (d :: xs)
    | none => none
  | true :: fl, .lst ys :: ds => match splice fl ds with
    | some xs => some (ys ++ xs)
    | none => none
  | true :: fl, .tup ys :: ds => match splice fl ds with
    | some xs => some (ys ++ xs)
    | none => none
  | _, _ => none
def pSpl (fl : List Bool) : Fn := fun ds M => match splice fl ds with
  | some xs => if xs.length ≤ lim then .ok (.lst xs) M else .stuck
  | none => .stuck
def pSplT (fl : List Bool) : Fn := fun ds M => match splice fl ds with
  | some xs => if xs.length ≤ lim then .ok (.tup xs) M else .stuck
  | none => .stuck
def codes (s : String) : Cs := s.toList.map Char.toNat
def intCs (i : Int) : Cs := codes (toString i)
def fitsI (i : Int) : Bool := decide (i.natAbs < 10 ^ 500)
/-- f"..{a}.." : texts alone -/
def catS : List D → Option Cs
  | [] => some []
  | .str s :: ds => match catS ds with
    | some t => some (s ++ t)
    | none => none
  | _ :: _ => none
def pFstr : Fn := fun ds M => match catS ds with
  | some s => if s.length ≤ lim then .ok (.str s) M else .stuck
  | none => .stuck
/-- {a}: a text, a number -/
def pFmt : Fn
  | [.str s], M => if s.length ≤ lim then .ok (.str s) M else .stuck
  | [.int i], M => if fitsI i ∧ (intCs i).length ≤ lim then .ok (.str (intCs i)) M else .stuck
  | _, _ => .stuck

/-! ### built-ins -/
def pLen (T : Tab) : Fn
  | [.lst xs], M => .ok (.int xs.length) M
  | [.tup xs], M => .ok (.int xs.length) M
  | [.str s], M => if s.length ≤ lim then .ok (.int s.length) M else .stuck
  | [.dict ks _], M => .ok (.int ks.length) M
  | [.scr xs], M => .ok (.int xs.length) M
  | [.ins c ns vs], M => dunder T "__len__" [.ins c ns vs] M
  | _, _ => .stuck
def pBool (T : Tab) : Fn
  | [.bl b], M => .ok (.bl b) M
  | [.int i], M => .ok (.bl (decide (i ≠ 0))) M
  | [.ins c ns vs], M => dunder T "__bool__" [.ins c ns vs] M
  | _, _ => .stuck
def pStr (T : Tab) : Fn
  | [.str s], M => .ok (.str s) M
  | [.int i], M => if fitsI i then .ok (.str (intCs i)) M else .stuck
  | [.ins c ns vs], M => dunder T "__str__" [.ins c ns vs] M
  | _, _ => .stuck
def pInt : Fn
  | [.int i], M => .ok (.int i) M
  | [.bl b], M => .ok (.int (if b then 1 else 0)) M
  | _, _ => .stuck
def pAbs : Fn
  | [.int i], M => .ok (.int (if i < 0 then -i else i)) M
  | _, _ => .stuck
def intsL : List D → Option (List Int)
  | [] => some []
  | .int i :: r => match intsL r with
    | some is => some (i :: is)
    | none => none
  | _ :: _ => none
def maxL : List Int → Int
  | [] => 0
  | [x] => x
  | x :: y :: r => max x (maxL (y :: r))
def minL : List Int → Int
  | [] => 0
  | [x] => x
  | x :: y :: r => min x (minL (y :: r))
def seqI (d : D) : Option (List Int) :=
  match d with
  | .lst xs => intsL xs
  | .tup xs => intsL xs
  | _ => none
def pMax : Fn
  | [.int a, .int b], M => .ok (.int (max a b)) M
  | [d], M => match seqI d with
    | some (i :: is) => .ok (.int (maxL (i :: is))) M
    | _ => .stuck
  | _, _ => .stuck
def pMax2 : Fn
  | [.int a, .int b], M => .ok (.int (max a b)) M
  | _, _ => .stuck
def pMin2 : Fn
  | [.int a, .int b], M => .ok (.int (min a b)) M
  | _, _ => .stuck
def pStrI : Fn
  | [.int i], M => if fitsI i then .ok (.str (intCs i)) M else .stuck
  | _, _ => .stuck
def pMin : Fn
  | [.int a, .int b], M => .ok (.int (min a b)) M
  | [d], M => match seqI d with
    | some (i :: is) => .ok (.int (minL (i :: is))) M
    | _ => .stuck
  | _, _ => .stuck
def pSum : Fn
  | [.lst xs], M => match intsL xs with
    | some is => .ok (.int is.sum) M
    | none => .stuck
  | _, _ => .stuck
def bls : List D → Option (List Bool)
  | [] => some []
  | .bl b :: r => match bls r with
    | some bs => some (b :: bs)
    | none => none
  | _ :: _ => none
def pAny : Fn
  | [.lst xs], M => match bls xs with
    | some bs => .ok (.bl (bs.any id)) M
    | none => .stuck
  | _, _ => .stuck
def pAll : Fn
  | [.lst xs], M => match bls xs with
    | some bs => .ok (.bl (bs.all id)) M
    | none => .stuck
  | _, _ => .stuck
def pList : Fn
  | [.lst xs], M => .ok (.lst xs) M
  | [.tup xs], M => .ok (.lst xs) M
  | _, _ => .stuck
def pTuple : Fn
  | [.lst xs], M => .ok (.tup xs) M
  | [.tup xs], M => .ok (.tup xs) M
  | _, _ => .stuck
def insSort (x : Int) : List Int → List Int
  | [] => [x]
  | y :: ys => if x ≤ y then x :: y :: ys else y :: insSort x ys
def sortI : List Int → List Int
  | [] => []
  | x :: xs => insSort x (sortI xs)
/-- sorted(xs) of ints -/
def pSorted : Fn
  | [.lst xs], M => match intsL xs with
    | some is => if is.length ≤ 10000 then .ok (.lst ((sortI is).map .int)) M else .stuck
    | none => .stuck
  | _, _ => .stuck
def dedI : List Int → List Int
  | [] => []
  | x :: xs => x :: (dedI xs).filter (fun y => decide (y ≠ x))
/-- sorted(set(xs)) of ints -/
def pSortSet : Fn
  | [.lst xs], M => match intsL xs with
    | some is => if is.length < 64 then .ok (.lst ((sortI (dedI is)).map .int)) M else .stuck
    | none => .stuck
  | _, _ => .stuck
def rangeL (lo : Int) : Nat → List D
  | 0 => []
  | n + 1 => .int lo :: rangeL (lo + 1) n
def pRange : Fn
  | [.int n], M => if n.natAbs ≤ lim then .ok (.lst (rangeL 0 n.toNat)) M else .stuck
  | [.int a, .int b], M => if a.natAbs ≤ lim ∧ b.natAbs ≤ lim ∧ (b - a).toNat ≤ lim then .ok (.lst (rangeL a (b - a).toNat)) M else .stuck
  | _, _ => .stuck
def enumL (i : Int) : List D → List D
  | [] => []
  | x :: xs => .tup [.int i, x] :: enumL (i + 1) xs
def pEnum : Fn
  | [.lst xs], M => .ok (.lst (enumL 0 xs)) M
  | [.tup xs], M => .ok (.lst (enumL 0 xs)) M
  | _, _ => .stuck
def zipL : List D → List D → List D
  | x :: xs, y :: ys => .tup [x, y] :: zipL xs ys
  | _, _ => []
def pZip : Fn
  | [a, b], M => match items a, items b with
    | some xs, some ys => .ok (.lst (zipL xs ys)) M
    | _, _ => .stuck
  | _, _ => .stuck
def pDivmod : Fn
  | [.int a, .int b], M => if 0 < b ∧ b.toNat < 2 ^ 256 then .ok (.tup [.int (a / b), .int (a % b)]) M else .stuck
  | _, _ => .stuck
/-- isinstance of data: the built-in classes; the program's own -/
def isB (T : String) : D → Option Bool
  | .non => some false
  | .bl _ => some (T == "bool" || T == "int")
  | .int _ => some (T == "int")
  | .str _ => some (T == "str")
  | .tup _ => some (T == "tuple")
  | .lst _ => some (T == "list")
  | .dict _ _ => some (T == "dict")
  | _ => none
def pIsinst (T : String) : Fn
  | [d], M => optB (isB T d) M
  | _, _ => .stuck
/-- .. an own class; sub: which classes are it or stand under it -/
def pIsOwn (sub : String → Option Bool) : Fn
  | [d], M => match d with
    | .ins c _ _ => optB (sub c) M
    | .ref _ => .stuck
    | .scr _ => .stuck
    | .cls _ => .stuck
    | _ => .ok (.bl false) M
  | _, _ => .stuck
/-- x.f, x of one of the classes -/
def pFld (cs : List String) (f : String) : Fn
  | [.ins c ns vs], M => if cs.contains c then optD (fget ns vs f) M else .stuck
  | [.ref a], M => match M[a]? with
    | some (.ins c ns vs) => if cs.contains c then optD (fget ns vs f) M else .stuck
    | _ => .stuck
  | _, _ => .stuck

/-! ### texts -/
/-- a text -/
def pS : Fn
  | [.str s], M => .ok (.str s) M
  | _, _ => .stuck
def strsL : List D → Option (List Cs)
  | [] => some []
  | .str s :: r => match strsL r with
    | some ss => some (s :: ss)
    | none => none
  | _ :: _ => none
def joinC (y : Cs) : List Cs → Cs
  | [] => []
  | [x] => x
  | x :: r => x ++ y ++ joinC y r
def pJoin : Fn
  | [.str y, .lst xs], M => match strsL xs with
    | some ss => if (joinC y ss).length + y.length ≤ lim then .ok (.str (joinC y ss)) M else .stuck
    | none => .stuck
  | _, _ => .stuck
/-- split by one sign -/
def splitC (c : Nat) (acc : Cs) : Cs → List Cs
  | [] => [acc]
  | x :: r => if x = c then acc :: splitC c [] r else splitC c (acc ++ [x]) r
def pSplit : Fn
  | [.str s, .str [c]], M => if s.length ≤ lim ∧ c < 256 then .ok (.lst ((splitC c [] s).map .str)) M else .stuck
  | _, _ => .stuck
def upC (c : Nat) : Nat := if 97 ≤ c ∧ c ≤ 122 then c - 32 else c
def pUpper : Fn
  | [.str s], M => if s.length ≤ lim ∧ s.all (fun c => decide (c < 128)) then .ok (.str (s.map upC)) M else .stuck
  | _, _ => .stuck

/-! ### methods of lists and the like on an owned name -/
def mAppend : OwnM
  | .lst xs, [y] => if xs.length < lim then some (.non, .lst (xs ++ [y])) else none
  | _, _ => none
def insAt (xs : List D) (i : Int) (y : D) : List D := xs.take i.toNat ++ [y] ++ xs.drop i.toNat
def mInsert : OwnM
  | .lst xs, [.int i, y] => if xs.length < lim ∧ 0 ≤ i ∧ i.toNat < 2 ^ 60 then some (.non, .lst (insAt xs i y)) else none
  | _, _ => none
def mPop : OwnM
  | .lst xs, [] => match xs.getLast? with
    | some y => some (y, .lst xs.dropLast)
    | none => none
  | .lst xs, [.int i] => match ixN xs.length i with
    | some j => match xs[j]? with
      | some y => some (y, .lst (xs.eraseIdx j))
      | none => none
    | none => none
  | _, _ => none

/-! ### calls, cells, own dunders -/
/-- the arguments put in the parameters' order -/
def pick {α : Type} (z : α) (ix : List Nat) (l : List α) : List α := ix.map fun i => l.getD i z
def pickF (ix : List Nat) (dfl : List D) (F : Fn) : Fn := fun ds M => F (pick .non ix (ds ++ dfl)) M
def Exs.app : Exs → Exs → Exs
  | .nil, b => b
  | .cons a r, b => .cons a (r.app b)
def Exs.len : Exs → Nat
  | .nil => 0
  | .cons _ r => r.len + 1
/-- a new list that is shared and changed -/
def pCell : Fn := fun ds M => .ok (.ref M.length) (M ++ [.lst ds])
/-- what an own len gives -/
def lenF (F : Fn) : Fn := fun ds M => bnd (F ds M) fun d M => match d with
  | .int n => if 0 ≤ n ∧ n.toNat < 2 ^ 62 then .ok (.int n) M else .stuck
  | _ => .stuck
/-- what an own == or in gives -/
def blF (F : Fn) : Fn := fun ds M => bnd (F ds M) fun d M => match d with
  | .bl b => .ok (.bl b) M
  | _ => .stuck
/-- what an own str gives -/
def strF (F : Fn) : Fn := fun ds M => bnd (F ds M) fun d M => match d with
  | .str b => .ok (.str b) M
  | _ => .stuck
/-- right side: a tuple -/
def rT (F : Fn) : Fn := fun ds M => match ds with
  | [.ins c ns vs, .tup ys] => F [.ins c ns vs, .tup ys] M
  | _ => .stuck
/-- the class c -/
def pCls (c : String) : Fn
  | [.cls c'], M => if c' = c then .ok (.cls c) M else .stuck
  | _, _ => .stuck
/-- the class aside -/
def tailF (F : Fn) : Fn
  | _ :: ds, M => F ds M
  | _, _ => .stuck
/-- right side: an instance of the same class -/
def rIns (c : String) (F : Fn) : Fn := fun ds M => match ds with
  | [x, .ins c' ns vs] => if c' = c then F [x, .ins c' ns vs] M else .stuck
  | _ => .stuck
def tab0 : Tab := fun _ _ => none
def atsOf : List Bool → List Nat → Ats
  | false :: fl, i :: is => .cons (.n i) (atsOf fl is)
  | true :: fl, i :: is => .cons (.o i) (atsOf fl is)
  | _, _ => .nil

/-- str(x), x an own instance or an int -/
def pStrO (T : Tab) : Fn := fun ds M => match ds with
  | [.ins c ns vs] => dunder T "__str__" [.ins c ns vs] M
  | _ => pStrI ds M

end Pk

set_option Elab.async false
set_option linter.all false
set_option autoImplicit false
set_option maxRecDepth 100000
set_option maxHeartbeats 1000000
/-! Sound1: how values and heaps of the hand layer bear data and memory. -/
namespace Pk
open PySem PySem.Spec PyProof.Rows L2

/-- cells' addresses, addresses that no value goes through, the tracked heap -/
structure Wd where
  κ : List Addr
  Z : Addr → Prop
  H : Hp

def sof (s : Cs) : Str := ⟨s.toArray⟩
theorem tl_sof (s : Cs) : (sof s).cps.toList = s := rfl
theorem sof_inj {s t : Cs} (h : sof s = sof t) : s = t := by
  have := congrArg (fun x : Str => x.cps.toList) h
  simpa [sof] using this
theorem sof_len (s : Cs) : (sof s).length = s.length := by simp [sof, Str.length]

def none0 : Hp := fun _ => none

/-- the script: locked, or of the written part -/
def ScrA (K : PySem.W.Frag) (w : Wd) (a : Addr) (vs : List V) : Prop :=
  (∃ o, w.H a = some (.frz o (.lst vs)) ∧ a ∉ w.κ) ∨ SqL K none0 a vs

inductive RpK : Key → D → Prop
  | int (i : Int) : RpK (.inl i) (.int i)
  | str (s : Cs) : RpK (.inr (sof s)) (.str s)

/-- a tuple that the top has written -/
def KT (K : PySem.W.Frag) (a : Addr) (xs : List V) : Prop :=
  ∃ (o : Obj) (its : Array Value) (n : Nat), K.lookup a = some o ∧ o.cls = .type "tuple" ∧ o.data = .seq its n ∧ its.size ≤ sizeLine ∧ Vals xs its.toList
/-- a tuple stands at a -/
def TupA (K : PySem.W.Frag) (w : Wd) (a : Addr) (xs : List V) : Prop := (w.H a = some (.tup xs) ∧ a ∉ w.κ ∧ ¬ w.Z a) ∨ KT K a xs
theorem TupA.sq {K : PySem.W.Frag} {w : Wd} {a : Addr} {xs : List V} (h : TupA K w a xs) : SqT K w.H a xs := by
  rcases h with ⟨h, _⟩ | h
  · exact .of h
  · exact .inr h
mutual
/-- v bears d; b: at the top a protected list or dict may be read -/
inductive Rp (K : PySem.W.Frag) (ca : String → Addr) (w : Wd) : Bool → V → D → Prop
  | non {b} : Rp K ca w b .non .non
  | bl {b} (x : Bool) : Rp K ca w b (.bl x) (.bl x)
  | int {b} (i : Int) : Rp K ca w b (.int i) (.int i)
  | str {b} (s : Cs) : Rp K ca w b (.str (sof s)) (.str s)
  | lst {b a vs ds} : w.H a = some (.lst vs) → a ∉ w.κ → (b = false → ¬ w.Z a) → RpAll K ca w vs ds → Rp K ca w b (.ref a) (.lst ds)
  | tup {b a vs ds} : TupA K w a vs → RpAll K ca w vs ds → Rp K ca w b (.ref a) (.tup ds)
  | scr {b a vs ds} : ScrA K w a vs → RpAll K ca w vs ds → Rp K ca w b (.ref a) (.scr ds)
  | dK {b a o kvs ks ds} : w.H a = some (.frz o (.dK kvs)) → a ∉ w.κ → Paired RpK (kvs.map (·.1)) ks → RpAll K ca w (kvs.map (·.2)) ds → Rp K ca w b (.ref a) (.dict ks ds)
  | dO {a kvs ks ds} : w.H a = some (.dK kvs) → a ∉ w.κ → Paired RpK (kvs.map (·.1)) ks → RpAll K ca w (kvs.map (·.2)) ds → Rp K ca w true (.ref a) (.dict ks ds)
  | ins {b a c dx fs ns ds} : w.H a = some (.ins (ca c) dx fs) → a ∉ w.κ → (b = false → ¬ w.Z a) → fs.map (·.1) = ns.map Str.ofString → RpAll K ca w (fs.map (·.2)) ds → Rp K ca w b (.ref a) (.ins c ns ds)
  | ref {b a k} : w.κ[k]? = some a → Rp K ca w b (.ref a) (.ref k)
  | cls {b} (c : String) : Rp K ca w b (.ref (ca c)) (.cls c)
inductive RpAll (K : PySem.W.Frag) (ca : String → Addr) (w : Wd) : List V → List D → Prop
  | nil : RpAll K ca w [] []
  | cons {v vs d ds} : Rp K ca w false v d → RpAll K ca w vs ds → RpAll K ca w (v :: vs) (d :: ds)
end

/-- args: each may be a protected list -/
inductive RpB (K : PySem.W.Frag) (ca : String → Addr) (w : Wd) (b : Bool) : List V → List D → Prop
  | nil : RpB K ca w b [] []
  | cons {v vs d ds} : Rp K ca w b v d → RpB K ca w b vs ds → RpB K ca w b (v :: vs) (d :: ds)

/-- a later world: nothing that was is changed but cells -/
structure Ext (w w' : Wd) : Prop where
  κ : ∃ more, w'.κ = w.κ ++ more ∧ ∀ a ∈ more, w.H a = none
  z : ∀ a, w'.Z a → w.Z a ∨ w.H a = none
  z2 : ∀ a, w.Z a → w'.Z a
  keep : ∀ a o, w.H a = some o → a ∉ w.κ → w'.H a = some o
  there : ∀ a, w.H a ≠ none → w'.H a ≠ none
theorem Ext.refl (w : Wd) : Ext w w := ⟨⟨[], by simp, fun _ h => nomatch h⟩, fun _ h => .inl h, fun _ h => h, fun _ _ h _ => h, fun _ h => h⟩
theorem Ext.nn {w w' : Wd} (e : Ext w w') {a : Addr} (h : w'.H a = none) : w.H a = none := by
  cases q : w.H a with
  | none => rfl
  | some o => exact absurd h (e.there a (by rw [q]; simp))
theorem Ext.notκ {w w' : Wd} (e : Ext w w') {a : Addr} {o : HO} (h : w.H a = some o) (n : a ∉ w.κ) : a ∉ w'.κ := by
  obtain ⟨m, q, hm⟩ := e.κ
  rw [q]
  intro z
  rcases List.mem_append.mp z with z | z
  · exact n z
  · rw [hm a z] at h; cases h
theorem Ext.notZ {w w' : Wd} (e : Ext w w') {a : Addr} {o : HO} (h : w.H a = some o) (n : ¬ w.Z a) : ¬ w'.Z a := fun z => by
  rcases e.z a z with z | z
  · exact n z
  · rw [z] at h; cases h
theorem Ext.trans {w w' w'' : Wd} (a : Ext w w') (b : Ext w' w'') : Ext w w'' := by
  obtain ⟨m1, q1, h1⟩ := a.κ
  obtain ⟨m2, q2, h2⟩ := b.κ
  refine ⟨⟨m1 ++ m2, by rw [q2, q1, List.append_assoc], fun c hc => ?_⟩, fun c hc => ?_, fun c h => b.z2 c (a.z2 c h), fun c o h n => b.keep c o (a.keep c o h n) (a.notκ h n), fun c h => b.there c (a.there c h)⟩
  · rcases List.mem_append.mp hc with hc | hc
    · exact h1 c hc
    · exact a.nn (h2 c hc)
  · rcases b.z c hc with z | z
    · exact a.z c z
    · exact .inr (a.nn z)

section
variable {K : PySem.W.Frag} {ca : String → Addr} {w w' : Wd} {v : V} {d : D} {vs : List V} {ds : List D} {b : Bool} {a p : Addr}

theorem ScrA.sq (h : ScrA K w a vs) : SqL K w.H a vs := by
  rcases h with ⟨o, h, _⟩ | h
  · exact .inl (.inr ⟨o, h⟩)
  · rcases h with (h | ⟨o, h⟩) | h
    · cases h
    · cases h
    · exact .inr h
theorem ScrA.ext (e : Ext w w') (h : ScrA K w a vs) : ScrA K w' a vs := by
  rcases h with ⟨o, h, n⟩ | h
  · exact .inl ⟨o, e.keep _ _ h n, e.notκ h n⟩
  · exact .inr h

theorem TupA.ext {xs : List V} (e : Ext w w') (h : TupA K w a xs) : TupA K w' a xs := by
  rcases h with ⟨h, n, z⟩ | h
  · exact .inl ⟨e.keep _ _ h n, e.notκ h n, e.notZ h z⟩
  · exact .inr h
mutual
theorem Rp.ext (e : Ext w w') : ∀ {b : Bool} {v : V} {d : D}, Rp K ca w b v d → Rp K ca w' b v d
  | _, _, _, .non => .non
  | _, _, _, .bl x => .bl x
  | _, _, _, .int i => .int i
  | _, _, _, .str s => .str s
  | _, _, _, .lst h n z r => .lst (e.keep _ _ h n) (e.notκ h n) (fun q => e.notZ h (z q)) (RpAll.ext e r)
  | _, _, _, .tup h r => .tup (h.ext e) (RpAll.ext e r)
  | _, _, _, .scr h r => .scr (h.ext e) (RpAll.ext e r)
  | _, _, _, .dK h n k r => .dK (e.keep _ _ h n) (e.notκ h n) k (RpAll.ext e r)
  | _, _, _, .dO h n k r => .dO (e.keep _ _ h n) (e.notκ h n) k (RpAll.ext e r)
  | _, _, _, .ins h n z k r => .ins (e.keep _ _ h n) (e.notκ h n) (fun q => e.notZ h (z q)) k (RpAll.ext e r)
  | _, _, _, .cls c => .cls c
  | _, _, _, .ref h => .ref (by
      obtain ⟨m, q, _⟩ := e.κ
      rw [q]
      rw [List.getElem?_append_left (by rcases List.getElem?_eq_some_iff.mp h with ⟨z, _⟩; exact z)]
      exact h)
theorem RpAll.ext (e : Ext w w') : ∀ {vs : List V} {ds : List D}, RpAll K ca w vs ds → RpAll K ca w' vs ds
  | _, _, .nil => .nil
  | _, _, .cons h r => .cons (Rp.ext e h) (RpAll.ext e r)
end
theorem RpB.ext (e : Ext w w') : ∀ {vs : List V} {ds : List D}, RpB K ca w b vs ds → RpB K ca w' b vs ds
  | _, _, .nil => .nil
  | _, _, .cons h r => .cons (h.ext e) (RpB.ext e r)
theorem Rp.up (h : Rp K ca w false v d) : Rp K ca w b v d := by
  cases h with
  | non => exact .non
  | bl x => exact .bl x
  | int i => exact .int i
  | str s => exact .str s
  | lst h n z r => exact .lst h n (fun _ => z rfl) r
  | tup h r => exact .tup h r
  | scr h r => exact .scr h r
  | dK h n k r => exact .dK h n k r
  | ins h n z k r => exact .ins h n (fun _ => z rfl) k r
  | ref h => exact .ref h
  | cls c => exact .cls c
theorem RpAll.up : ∀ {vs : List V} {ds : List D}, RpAll K ca w vs ds → RpB K ca w b vs ds
  | _, _, .nil => .nil
  | _, _, .cons h r => .cons h.up (RpAll.up r)
theorem RpB.down : ∀ {vs : List V} {ds : List D}, RpB K ca w false vs ds → RpAll K ca w vs ds
  | _, _, .nil => .nil
  | _, _, .cons h r => .cons h (RpB.down r)
theorem RpB.length : ∀ {vs : List V} {ds : List D}, RpB K ca w b vs ds → vs.length = ds.length
  | _, _, .nil => rfl
  | _, _, .cons _ r => by simp [RpB.length r]
theorem RpAll.length : ∀ {vs : List V} {ds : List D}, RpAll K ca w vs ds → vs.length = ds.length
  | _, _, .nil => rfl
  | _, _, .cons _ r => by simp [RpAll.length r]
theorem RpAll.get : ∀ {vs : List V} {ds : List D} {i : Nat} {d : D}, RpAll K ca w vs ds → ds[i]? = some d → ∃ v, vs[i]? = some v ∧ Rp K ca w false v d
  | _, _, _, _, .nil, e => by simp at e
  | _, _, 0, _, .cons h _, e => by simp at e; subst e; exact ⟨_, rfl, h⟩
  | _, _, i + 1, d, .cons _ r, e => by
    obtain ⟨v, h1, h2⟩ := RpAll.get (i := i) (d := d) r (by simpa using e)
    exact ⟨v, by simpa using h1, h2⟩
theorem RpAll.append : ∀ {vs us : List V} {ds es : List D}, RpAll K ca w vs ds → RpAll K ca w us es → RpAll K ca w (vs ++ us) (ds ++ es)
  | _, _, _, _, .nil, r => r
  | _, _, _, _, .cons h t, r => .cons h (RpAll.append t r)
theorem RpAll.set {v : V} {d : D} (h : Rp K ca w false v d) : ∀ {vs : List V} {ds : List D} (i : Nat), RpAll K ca w vs ds → RpAll K ca w (vs.set i v) (ds.set i d)
  | _, _, _, .nil => .nil
  | _, _, 0, .cons _ t => .cons h t
  | _, _, i + 1, .cons q t => .cons q (RpAll.set h i t)
theorem RpAll.take : ∀ {vs : List V} {ds : List D} (n : Nat), RpAll K ca w vs ds → RpAll K ca w (vs.take n) (ds.take n)
  | _, _, 0, _ => .nil
  | _, _, _ + 1, .nil => .nil
  | _, _, n + 1, .cons r t => .cons r (RpAll.take n t)
theorem RpAll.drop : ∀ {vs : List V} {ds : List D} (n : Nat), RpAll K ca w vs ds → RpAll K ca w (vs.drop n) (ds.drop n)
  | _, _, 0, r => r
  | _, _, _ + 1, .nil => .nil
  | _, _, n + 1, .cons _ t => RpAll.drop n t
theorem RpAll.reverse : ∀ {vs : List V} {ds : List D}, RpAll K ca w vs ds → RpAll K ca w vs.reverse ds.reverse
  | _, _, .nil => .nil
  | _, _, .cons h t => by
    rw [List.reverse_cons, List.reverse_cons]
    exact (RpAll.reverse t).append (.cons h .nil)

/-- a new object at p -/
def Wd.at (w : Wd) (p : Addr) (o : HO) : Wd := { w with H := upd w.H p o }
/-- .. protected -/
def Wd.own (w : Wd) (p : Addr) (o : HO) : Wd := { w with H := upd w.H p o, Z := fun a => w.Z a ∨ a = p }
theorem Ext.at {o : HO} (h : w.H p = none) : Ext w (w.at p o) := by
  refine ⟨⟨[], by simp [Wd.at], fun _ h => nomatch h⟩, fun a h => .inl h, fun a h => h, fun a u q _ => ?_, fun a q => ?_⟩
  · show upd w.H p o a = some u
    rw [upd_ne (ne_of_none q h)]; exact q
  · show upd w.H p o a ≠ none
    unfold upd
    split
    · simp
    · exact q
theorem Ext.own {o : HO} (h : w.H p = none) : Ext w (w.own p o) := by
  refine ⟨⟨[], by simp [Wd.own], fun _ h => nomatch h⟩, fun a z => ?_, fun a h => .inl h, fun a u q _ => ?_, fun a q => ?_⟩
  · rcases z with z | z
    · exact .inl z
    · exact .inr (z ▸ h)
  · show upd w.H p o a = some u
    rw [upd_ne (ne_of_none q h)]; exact q
  · show upd w.H p o a ≠ none
    unfold upd
    split
    · simp
    · exact q

theorem at_ne {o : HO} (hz : w.Z p) (z : ¬ w.Z a) : (w.at p o).H a = w.H a := upd_ne fun e => z (e ▸ hz)
theorem ScrA.wr {o : HO} (hf : ∀ o u, w.H p ≠ some (.frz o u)) (h : ScrA K w a vs) : ScrA K (w.at p o) a vs := by
  rcases h with ⟨u, h, n⟩ | h
  · exact .inl ⟨u, (upd_ne (fun e => hf _ _ (e ▸ h))).trans h, n⟩
  · exact .inr h
theorem TupA.wr {xs : List V} {o : HO} (hz : w.Z p) (h : TupA K w a xs) : TupA K (w.at p o) a xs := by
  rcases h with ⟨h, n, z⟩ | h
  · exact .inl ⟨(at_ne hz z).trans h, n, z⟩
  · exact .inr h
mutual
/-- an object is written that no value goes through -/
theorem Rp.wr {o : HO} (hz : w.Z p) (hf : ∀ o u, w.H p ≠ some (.frz o u)) : ∀ {v : V} {d : D}, Rp K ca w false v d → Rp K ca (w.at p o) false v d
  | _, _, .non => .non
  | _, _, .bl x => .bl x
  | _, _, .int i => .int i
  | _, _, .str s => .str s
  | _, _, .lst h n z r => .lst ((at_ne hz (z rfl)).trans h) n z (RpAll.wr hz hf r)
  | _, _, .tup h r => .tup (h.wr hz) (RpAll.wr hz hf r)
  | _, _, .scr h r => .scr (h.wr hf) (RpAll.wr hz hf r)
  | _, _, .dK h n k r => .dK ((upd_ne (fun e => hf _ _ (e ▸ h))).trans h) n k (RpAll.wr hz hf r)
  | _, _, .ins h n z k r => .ins ((at_ne hz (z rfl)).trans h) n z k (RpAll.wr hz hf r)
  | _, _, .ref h => .ref h
  | _, _, .cls c => .cls c
theorem RpAll.wr {o : HO} (hz : w.Z p) (hf : ∀ o u, w.H p ≠ some (.frz o u)) : ∀ {vs : List V} {ds : List D}, RpAll K ca w vs ds → RpAll K ca (w.at p o) vs ds
  | _, _, .nil => .nil
  | _, _, .cons h r => .cons (Rp.wr hz hf h) (RpAll.wr hz hf r)
end
end

end Pk

set_option Elab.async false
set_option linter.all false
set_option autoImplicit false
set_option maxRecDepth 100000
set_option maxHeartbeats 1000000
/-! Sound2: what a frame bears; outcomes; the readings of IR expressions. -/
namespace Pk
open PySem PySem.Spec PyProof.Rows L2

/-- what stands at an owned address -/
def OwnC (K : PySem.W.Frag) (ca : String → Addr) (w : Wd) (p : Addr) : D → Prop
  | .lst ds => ∃ vs, w.H p = some (.lst vs) ∧ RpAll K ca w vs ds
  | .dict ks ds => ∃ kvs, w.H p = some (.dK kvs) ∧ Paired RpK (kvs.map (·.1)) ks ∧ RpAll K ca w (kvs.map (·.2)) ds
  | .ins c ns ds => ∃ dx fs, w.H p = some (.ins (ca c) dx fs) ∧ fs.map (·.1) = ns.map Str.ofString ∧ RpAll K ca w (fs.map (·.2)) ds
  | _ => False
def CellC (K : PySem.W.Frag) (ca : String → Addr) (w : Wd) (p : Addr) : Cell → Prop
  | .lst ds => ∃ vs, w.H p = some (.lst vs) ∧ RpAll K ca w vs ds
  | .ins c ns ds => ∃ dx fs, w.H p = some (.ins (ca c) dx fs) ∧ fs.map (·.1) = ns.map Str.ofString ∧ RpAll K ca w (fs.map (·.2)) ds

structure MemOk (K : PySem.W.Frag) (ca : String → Addr) (w : Wd) (M : Mem) : Prop where
  len : w.κ.length = M.length
  nd : w.κ.Nodup
  z : ∀ a ∈ w.κ, w.Z a
  at_ : ∀ (k : Nat) (c : Cell), M[k]? = some c → ∃ a, w.κ[k]? = some a ∧ CellC K ca w a c

/-- the fixed part of a reading: written part, classes' addresses, the entry's world, the slots that may own, the wish for exceptions -/
structure Rd0 where
  K : PySem.W.Frag
  ca : String → Addr
  w0 : Wd
  mu : List Nat
  W : WX

/-- a frame's slots, the memory, the temporaries T; w0: the world at the def's entry -/
structure Bears (R : Rd0) (w : Wd) (σ : L2.St) (Γ : Env) (M : Mem) (T : List Addr) : Prop where
  ext : Ext R.w0 w
  zt0 : ∀ a, R.w0.Z a → R.w0.H a ≠ none
  zt : ∀ a, w.Z a → w.H a ≠ none
  len : σ.length = Γ.length
  val : ∀ (i : Nat) (d : D), Γ[i]? = some (Slot.val d) → ∃ v, σ[i]? = some (some v) ∧ Rp R.K R.ca w false v d
  own : ∀ (i : Nat) (d : D), Γ[i]? = some (Slot.own d) → ∃ p, σ[i]? = some (some (V.ref p)) ∧ w.Z p ∧ R.w0.H p = none ∧ p ∉ w.κ ∧ p ∉ T ∧ OwnC R.K R.ca w p d
  mu : ∀ (i : Nat) (d : D), Γ[i]? = some (Slot.own d) → i ∈ R.mu
  apart : ∀ (i j : Nat) (d e : D) (p : Addr), Γ[i]? = some (Slot.own d) → Γ[j]? = some (Slot.own e) → σ[i]? = some (some (V.ref p)) → σ[j]? = some (some (V.ref p)) → i = j
  tmp : ∀ p ∈ T, w.Z p ∧ R.w0.H p = none ∧ p ∉ w.κ
  tnd : T.Nodup
  mem : MemOk R.K R.ca w M

section
variable {R : Rd0} {K : PySem.W.Frag} {ca : String → Addr} {w w' : Wd} {σ : L2.St} {Γ : Env} {M : Mem} {T : List Addr} {v : V} {d : D} {vs : List V} {ds : List D} {b : Bool} {a p : Addr}

theorem OwnC.ext (e : Ext w w') (n : p ∉ w.κ) : OwnC K ca w p d → OwnC K ca w' p d := by
  cases d <;> intro h <;> first | exact h.elim | skip
  case lst => obtain ⟨vs, h, r⟩ := h; exact ⟨vs, e.keep _ _ h n, r.ext e⟩
  case dict => obtain ⟨kvs, h, k, r⟩ := h; exact ⟨kvs, e.keep _ _ h n, k, r.ext e⟩
  case ins => obtain ⟨dx, fs, h, k, r⟩ := h; exact ⟨dx, fs, e.keep _ _ h n, k, r.ext e⟩
theorem OwnC.rp (n : p ∉ w.κ) : OwnC K ca w p d → Rp K ca w true (.ref p) d := by
  cases d <;> intro h <;> first | exact h.elim | skip
  case lst => obtain ⟨vs, h, r⟩ := h; exact .lst h n (fun q => nomatch q) r
  case dict => obtain ⟨kvs, h, k, r⟩ := h; exact .dO h n k r
  case ins => obtain ⟨dx, fs, h, k, r⟩ := h; exact .ins h n (fun q => nomatch q) k r
theorem OwnC.at {o : HO} (h : w.H a = none) (x : OwnC K ca w p d) (n : p ∉ w.κ) : OwnC K ca (w.at a o) p d := x.ext (Ext.at h) n

/-- a new value's object: nothing that was is changed -/
theorem Bears.at {o : HO} (s : Bears R w σ Γ M T) (h : w.H p = none) : Bears R (w.at p o) σ Γ M T := by
  have e : Ext w (w.at p o) := Ext.at h
  refine ⟨s.ext.trans e, s.zt0, fun a z => ?_, s.len, fun i d q => ?_, fun i d q => ?_, s.mu, s.apart, s.tmp, s.tnd, ⟨s.mem.len, s.mem.nd, s.mem.z, fun k c q => ?_⟩⟩
  · exact e.there a (s.zt a z)
  · obtain ⟨v, h1, h2⟩ := s.val i d q
    exact ⟨v, h1, h2.ext e⟩
  · obtain ⟨r, h1, h2, h3, h4, h5, h6⟩ := s.own i d q
    exact ⟨r, h1, h2, h3, h4, h5, h6.ext e h4⟩
  · obtain ⟨a, h1, h2⟩ := s.mem.at_ k c q
    refine ⟨a, h1, ?_⟩
    have ha : a ∈ w.κ := List.mem_of_getElem? h1
    have hne : a ≠ p := fun z => s.zt a (s.mem.z a ha) (z ▸ h)
    cases c with
    | lst ds => obtain ⟨vs, x, r⟩ := h2; exact ⟨vs, (upd_ne hne).trans x, r.ext e⟩
    | ins c ns ds => obtain ⟨dx, fs, x, k, r⟩ := h2; exact ⟨dx, fs, (upd_ne hne).trans x, k, r.ext e⟩
/-- a new object that is protected, a temporary -/
theorem Bears.push {o : HO} (s : Bears R w σ Γ M T) (h : w.H p = none) : Bears R (w.own p o) σ Γ M (p :: T) := by
  have e : Ext w (w.own p o) := Ext.own h
  have nT : p ∉ T := fun z => s.zt p (s.tmp p z).1 h
  have nκ : p ∉ w.κ := fun z => s.zt p (s.mem.z p z) h
  refine ⟨s.ext.trans e, s.zt0, fun a z => ?_, s.len, fun i d q => ?_, fun i d q => ?_, s.mu, s.apart, fun a ha => ?_, List.nodup_cons.mpr ⟨nT, s.tnd⟩, ⟨s.mem.len, s.mem.nd, fun a ha => .inl (s.mem.z a ha), fun k c q => ?_⟩⟩
  · rcases z with z | z
    · exact e.there a (s.zt a z)
    · subst z
      show upd w.H a o a ≠ none
      rw [upd_same]; simp
  · obtain ⟨v, h1, h2⟩ := s.val i d q
    exact ⟨v, h1, h2.ext e⟩
  · obtain ⟨r, h1, h2, h3, h4, h5, h6⟩ := s.own i d q
    refine ⟨r, h1, .inl h2, h3, h4, fun z => ?_, h6.ext e h4⟩
    rcases List.mem_cons.mp z with z | z
    · exact s.zt r h2 (z ▸ h)
    · exact h5 z
  · rcases List.mem_cons.mp ha with z | z
    · subst z
      exact ⟨.inr rfl, s.ext.nn h, nκ⟩
    · obtain ⟨h1, h2, h3⟩ := s.tmp a z
      exact ⟨.inl h1, h2, h3⟩
  · obtain ⟨a, h1, h2⟩ := s.mem.at_ k c q
    refine ⟨a, h1, ?_⟩
    have ha : a ∈ w.κ := List.mem_of_getElem? h1
    have hne : a ≠ p := fun z => s.zt a (s.mem.z a ha) (z ▸ h)
    cases c with
    | lst ds => obtain ⟨vs, x, r⟩ := h2; exact ⟨vs, (upd_ne hne).trans x, r.ext e⟩
    | ins c ns ds => obtain ⟨dx, fs, x, k, r⟩ := h2; exact ⟨dx, fs, (upd_ne hne).trans x, k, r.ext e⟩
end

section
variable {R : Rd0} {w w' : Wd} {σ : L2.St} {Γ : Env} {M M' : Mem} {T : List Addr}
/-- behind a call -/
theorem Bears.call (s : Bears R w σ Γ M T) (e : Ext w w') (m : MemOk R.K R.ca w' M') (z : ∀ a, w'.Z a → w'.H a ≠ none) : Bears R w' σ Γ M' T := by
  have nk : ∀ p, w.Z p → p ∉ w.κ → p ∉ w'.κ := fun p hz n q => by
    obtain ⟨more, q1, q2⟩ := e.κ
    rw [q1] at q
    rcases List.mem_append.mp q with q | q
    · exact n q
    · exact s.zt p hz (q2 p q)
  refine ⟨s.ext.trans e, s.zt0, z, s.len, fun i d q => ?_, fun i d q => ?_, s.mu, s.apart, fun p hp => ?_, s.tnd, m⟩
  · obtain ⟨v, h1, h2⟩ := s.val i d q
    exact ⟨v, h1, h2.ext e⟩
  · obtain ⟨r, h1, h2, h3, h4, h5, h6⟩ := s.own i d q
    exact ⟨r, h1, e.z2 r h2, h3, nk r h2 h4, h5, h6.ext e h4⟩
  · obtain ⟨h1, h2, h3⟩ := s.tmp p hp
    exact ⟨e.z2 p h1, h2, nk p h1 h3⟩
end

/-- how an exception lies: its class, its own dict -/
def ExR (K : PySem.W.Frag) (ca : String → Addr) (w : Wd) (e : D) (cls : Value) (dx : Option Addr) : Prop :=
  ∃ c ns ds d fs, e = .ins c ns ds ∧ cls = .ref (ca c) ∧ dx = some d ∧ w.H d = some (.xd fs) ∧ d ∉ w.κ ∧ ¬ w.Z d ∧ fs.map (·.1) = ns.map Str.ofString ∧ RpAll K ca w (fs.map (·.2)) ds

def OutR {α : Type} (R : Rd0) (σ : L2.St) (Γ : Env) (T : List Addr) (w : Wd) (r : Res α) (Q : α → Mem → Wd → Prop) : Prop :=
  match r with
  | .ok a M' => ∀ w', Ext w w' → Bears R w' σ Γ M' T → Q a M' w'
  | .err e M' => ∀ cls dx w', Ext w w' → Bears R w' σ Γ M' T → ExR R.K R.ca w' e cls dx → R.W cls dx σ w'.H
  | .stuck => False

section
variable {α β : Type} {R : Rd0} {σ : L2.St} {Γ : Env} {T : List Addr} {w w1 : Wd} {r : Res α} {Q Q' : α → Mem → Wd → Prop}
theorem OutR.fwd (h : OutR R σ Γ T w r Q) (e : Ext w w1) : OutR R σ Γ T w1 r Q := by
  cases r with
  | ok a M => exact fun w' e' => h w' (e.trans e')
  | err x M => exact fun cls dx w' e' => h cls dx w' (e.trans e')
  | stuck => exact h
theorem OutR.imp (h : OutR R σ Γ T w r Q) (i : ∀ a M' w', Ext w w' → Bears R w' σ Γ M' T → Q a M' w' → Q' a M' w') : OutR R σ Γ T w r Q' := by
  cases r with
  | ok a M => exact fun w' e' s' => i a M w' e' s' (h w' e' s')
  | err x M => exact h
  | stuck => exact h
theorem OutR.bnd {f : α → Mem → Res β} {Q : β → Mem → Wd → Prop} (h : OutR R σ Γ T w (bnd r f) Q) : OutR R σ Γ T w r fun a M1 w1 => OutR R σ Γ T w1 (f a M1) Q := by
  cases r with
  | ok a M => exact fun w' e' _ => OutR.fwd (r := f a M) h e'
  | err x M => exact h
  | stuck => exact h
/-- nothing is raised -/
theorem OutR.here {a : α} {M : Mem} (h : OutR R σ Γ T w (.ok a M) Q) (s : Bears R w σ Γ M T) : Q a M w := h w (Ext.refl w) s
end

/-- the reading of an IR expression; b: what it gives may be a protected list that is read -/
def tE (R : Rd0) (b : Bool) (e : Ex) : TE := fun σ H Q => ∃ w Γ M T, w.H = H ∧ Bears R w σ Γ M T ∧
  OutR R σ Γ T w (ev e Γ M) fun d _ w' => ∀ v, Rp R.K R.ca w' b v d → Q v w'.H
/-- .. of one that gives a new list -/
def tF (R : Rd0) (e : Ex) : TE := fun σ H Q => ∃ w Γ M T, w.H = H ∧ Bears R w σ Γ M T ∧
  OutR R σ Γ T w (ev e Γ M) fun d M' w' => ∀ p, w.H p = none → Bears R w' σ Γ M' (p :: T) → OwnC R.K R.ca w' p d → Q (.ref p) w'.H
def tT (R : Rd0) (e : Ex) : TT := fun σ H Q => ∃ w Γ M T, w.H = H ∧ Bears R w σ Γ M T ∧
  OutR R σ Γ T w (bnd (ev e Γ M) asBool) fun t _ w' => Q t w'.H
def tA (R : Rd0) (b : Bool) (es : Exs) : TA := fun σ H Q => ∃ w Γ M T, w.H = H ∧ Bears R w σ Γ M T ∧
  OutR R σ Γ T w (evs es Γ M) fun ds _ w' => ∀ vs, RpB R.K R.ca w' b vs ds → Q vs w'.H

section
variable {X : Cx} {R : Rd0} {b : Bool} {t t' : TE} {u u' : TT} {e : Expr} {es : List Expr} {ir ia ib : Ex} {irs : Exs}
theorem PEmono (h : PE X e t) (i : ∀ σ H Q, t' σ H Q → t σ H Q) : PE X e t' := ⟨fun pins s σ H Q I q => h.run pins s σ H Q I (i σ H Q q)⟩
theorem PTmono (h : PT X e u) (i : ∀ σ H Q, u' σ H Q → u σ H Q) : PT X e u' := ⟨fun pins s σ H Q I q => h.run pins s σ H Q I (i σ H Q q)⟩
theorem PAmono {t t' : TA} (h : PA X es t) (i : ∀ σ H Q, t' σ H Q → t σ H Q) : PA X es t' := ⟨fun pos pins s σ H Q I q => h.run pos pins s σ H Q I (i σ H Q q)⟩

/-- a strict reading may be taken for a reading -/
theorem PE.up (h : PE X e (tE R false ir)) : PE X e (tE R b ir) := PEmono h fun σ H Q ⟨w, Γ, M, T, hw, sr, o⟩ =>
  ⟨w, Γ, M, T, hw, sr, o.imp fun d M' w' _ _ q v r => q v r.up⟩

theorem e_const {v : V} {d : D} (h : PE X e (tC v)) (hr : ∀ w, Rp R.K R.ca w false v d) : PE X e (tE R b (.const d)) := PE.up <| PEmono h fun σ H Q ⟨w, Γ, M, T, hw, sr, o⟩ => by
  subst hw
  exact o.here sr v (hr w)

theorem a_nil : PA X [] (tA R b .nil) := PAmono pa_nil fun σ H Q ⟨w, Γ, M, T, hw, sr, o⟩ => by
  subst hw
  exact o.here sr [] .nil
theorem a_cons (ha : PE X e (tE R b ia)) (hr : PA X es (tA R b irs)) (hs : starEach (e :: es) X.env = (false, eval e X.env) :: starEach es X.env) : PA X (e :: es) (tA R b (.cons ia irs)) :=
  PAmono (pa_cons ha hr hs) fun σ H Q ⟨w, Γ, M, T, hw, sr, o⟩ => by
    subst hw
    have o : OutR R σ Γ T w (bnd (ev ia Γ M) fun d M => bnd (evs irs Γ M) fun ds M => .ok (d :: ds) M) _ := o
    refine ⟨w, Γ, M, T, rfl, sr, o.bnd.imp fun d M1 w1 e1 s1 o1 v r => ?_⟩
    refine ⟨w1, Γ, M1, T, rfl, s1, o1.bnd.imp fun ds M2 w2 e2 s2 o2 vs rs => ?_⟩
    exact o2.here s2 (v :: vs) (.cons (r.ext e2) rs)

/-- two operands and an operator's rule -/
def Prim2 (R : Rd0) (F : Fn) (r : R2) : Prop := ∀ (σ : L2.St) (Γ : Env) (M : Mem) (T : List Addr) (w : Wd) (x y : D) (vx vy : V) (Q : VK), Bears R w σ Γ M T → Rp R.K R.ca w true vx x → Rp R.K R.ca w true vy y →
  OutR R σ Γ T w (F [x, y] M) (fun d _ w' => ∀ v, Rp R.K R.ca w' false v d → Q v w'.H) → r vx vy w.H Q
theorem e_bin {op : Operator} {F : Fn} {r : R2} {a c : Expr} {pos : Pos} (ho : OpR X (binaryOp op) r) (hF : Prim2 R F r) (ha : PE X a (tE R true ia)) (hc : PE X c (tE R true ib)) :
    PE X (.BinOp a op c pos) (tE R false (.app F (.cons ia (.cons ib .nil)))) :=
  PEmono (pe_op ho ha hc) fun σ H Q ⟨w, Γ, M, T, hw, sr, o⟩ => by
    subst hw
    have o : OutR R σ Γ T w (bnd (bnd (ev ia Γ M) fun d M => bnd (bnd (ev ib Γ M) fun d M => bnd (.ok [] M) fun ds M => .ok (d :: ds) M) fun ds M => .ok (d :: ds) M) F) _ := o
    have o' : OutR R σ Γ T w (bnd (ev ia Γ M) fun x M => bnd (ev ib Γ M) fun y M => F [x, y] M) fun d _ w' => ∀ v, Rp R.K R.ca w' false v d → Q v w'.H := by
      revert o
      cases ev ia Γ M with
      | ok x M1 => simp only [bnd_ok]; cases ev ib Γ M1 <;> exact id
      | err x M1 => exact id
      | stuck => exact id
    refine ⟨w, Γ, M, T, rfl, sr, o'.bnd.imp fun x M1 w1 e1 s1 o1 vx rx => ?_⟩
    refine ⟨w1, Γ, M1, T, rfl, s1, o1.bnd.imp fun y M2 w2 e2 s2 o2 vy ry => ?_⟩
    exact hF σ Γ M2 T w2 x y vx vy Q s2 (rx.ext e2) ry o2
end

/-! ### operators by cases -/
section
variable {R : Rd0}
/-- ints in, a value out -/
theorem p2_int {F : Fn} {g : Int → Int → D} {gv : Int → Int → V} {C : Int → Int → Prop}
    (hF : ∀ x y M, (∃ i j, x = .int i ∧ y = .int j ∧ C i j ∧ F [x, y] M = .ok (g i j) M) ∨ F [x, y] M = .stuck) (hg : ∀ i j w, Rp R.K R.ca w false (gv i j) (g i j)) : Prim2 R F (rI C gv) := by
  intro σ Γ M T w x y vx vy Q sr rx ry o
  rcases hF x y M with ⟨i, j, rfl, rfl, hc, h⟩ | h
  · rw [h] at o
    cases rx
    cases ry
    exact ⟨i, j, rfl, rfl, hc, o.here sr _ (hg i j w)⟩
  · rw [h] at o
    exact o.elim
end

end Pk

set_option Elab.async false
set_option linter.all false
set_option autoImplicit false
set_option maxRecDepth 100000
set_option maxHeartbeats 1000000
/-! Sound3: calls of defs and classes; a def by its body. -/
namespace Pk
open PySem PySem.Spec PyProof.Rows L2

/-! ### what a def promises: as FnOk, in a context without guards -/
structure FnG (P : Program) (w : World) (K : PySem.W.Frag) (mg : Str → Option Value) (base : Heap) (k : Nat) (f : Addr) (fd : FuncData) (ps : List Str) (sp : Sp) : Prop where
  len : ∀ vs H Q E, sp vs H Q E → vs.length = ps.length
  run : ∀ (A : Around) (outer : List PySem.Env) (s : Shared) (H : Hp) (args : Args) (us : List Value) (vs : List V) (Q : VK) (E : XK), Room k A → A.guards = some [] → Env0 P w K mg base A outer s H → BindsTo s fd args (ps.zip us) → Vals vs us → sp vs H Q E →
    codeAny (model P w) A (.call (.ref f) args) (CR (L2.CX P w) outer P w H s Q E) s
theorem FnG.mono {P : Program} {w : World} {K : PySem.W.Frag} {mg : Str → Option Value} {base : Heap} {j k : Nat} {f : Addr} {fd : FuncData} {ps : List Str} {sp : Sp} (F : FnG P w K mg base j f fd ps sp) (h : j ≤ k) :
    FnG P w K mg base k f fd ps sp := ⟨F.len, fun A outer s H args us vs Q E hr => F.run A outer s H args us vs Q E (hr.mono h)⟩

/-- the promise that goes with what IR says of a def -/
def spF (K : PySem.W.Frag) (ca : String → Addr) (F : Fn) (n : Nat) : Sp := fun vs H Q E => vs.length = n ∧ ∃ (w : Wd) (ds : List D) (M : Mem), w.H = H ∧ RpAll K ca w vs ds ∧ MemOk K ca w M ∧ (∀ a, w.Z a → w.H a ≠ none) ∧
  match F ds M with
  | .ok d M' => ∀ v w', Ext w w' → MemOk K ca w' M' → (∀ a, w'.Z a → w'.H a ≠ none) → Rp K ca w' false v d → Q v w'.H
  | .err e M' => ∀ cls dx w', Ext w w' → MemOk K ca w' M' → (∀ a, w'.Z a → w'.H a ≠ none) → ExR K ca w' e cls dx → E cls dx w'.H
  | .stuck => False

/-- a value that is called with positional values and keywords' values -/
def CalR (X : Cx) (R : Rd0) (fv : Value) (n : Nat) (ks : List Str) (F : Fn) : Prop := ∀ (pins : List (Addr × Obj)) (s : Shared) (σ : L2.St) (w : Wd) (Γ : Env) (M : Mem) (T : List Addr) (us ws : List Value) (vs zs : List V) (ds es : List D) (Q : VK),
  Inv X pins σ w.H s → Bears R w σ Γ M T → Vals vs us → Vals zs ws → RpAll R.K R.ca w vs ds → RpAll R.K R.ca w zs es → us.length = n → ws.length = ks.length →
  OutR R σ Γ T w (F (ds ++ es) M) (fun d _ w' => ∀ v, Rp R.K R.ca w' false v d → Q v w'.H) → wpAny (model X.prog X.w) X.A (call fv us (ks.zip ws)) (EP X pins σ Q) X.xe s


/-- how a call binds: n positional values, keywords ks, the defaults dv that are needed, in the order ix -/
structure KB (K : PySem.W.Frag) (fd : FuncData) (ps : List Str) (n : Nat) (ks : List Str) (dv : List Value) (ix : List Nat) : Prop where
  to : ∀ (s : Shared) (us ws : List Value), K.In s.heap → us.length = n → ws.length = ks.length → BindsTo s fd ⟨us, ks.zip ws⟩ (ps.zip (pick .none ix (us ++ ws ++ dv)))
  lt : ∀ i ∈ ix, i < n + ks.length + dv.length
  plen : ix.length = ps.length

theorem vals_pick {vs : List V} {us : List Value} (r : Vals vs us) : ∀ (ix : List Nat), (∀ i ∈ ix, i < us.length) → Vals (pick .non ix vs) (pick .none ix us)
  | [], _ => .nil
  | i :: ix, h => by
    have hi : i < us.length := h i List.mem_cons_self
    have hv : i < vs.length := by rw [r.length]; exact hi
    refine .cons ?_ (vals_pick r ix fun j hj => h j (List.mem_cons_of_mem _ hj))
    obtain ⟨u, h1, h2⟩ := r.get (i := i) (x := vs[i]) (List.getElem?_eq_getElem hv)
    show RelV (vs.getD i .non) (us.getD i .none)
    rw [List.getD_eq_getElem?_getD, List.getElem?_eq_getElem hv, List.getD_eq_getElem?_getD, h1]
    exact h2
theorem rp_pick {K : PySem.W.Frag} {ca : String → Addr} {w : Wd} {vs : List V} {ds : List D} (r : RpAll K ca w vs ds) : ∀ (ix : List Nat), (∀ i ∈ ix, i < ds.length) → RpAll K ca w (pick .non ix vs) (pick .non ix ds)
  | [], _ => .nil
  | i :: ix, h => by
    have hi : i < ds.length := h i List.mem_cons_self
    refine .cons ?_ (rp_pick r ix fun j hj => h j (List.mem_cons_of_mem _ hj))
    obtain ⟨v, h1, h2⟩ := r.get (i := i) (d := ds[i]) (List.getElem?_eq_getElem hi)
    show Rp K ca w false (vs.getD i .non) (ds.getD i .non)
    rw [List.getD_eq_getElem?_getD, h1, List.getD_eq_getElem?_getD, List.getElem?_eq_getElem hi]
    exact h2

section
variable {X : Cx} {R : Rd0} {k : Nat} {f C : Addr} {fd : FuncData} {ps ks : List Str} {F : Fn} {n : Nat}
/-- the wish of a caller for what a callee lets out is met -/
theorem out_ok {σ : L2.St} {w : Wd} {Γ : Env} {M : Mem} {T : List Addr} {vs : List V} {ds : List D} {Q : VK} (b : Bears R w σ Γ M T) (hl : vs.length = n) (r : RpAll R.K R.ca w vs ds)
    (o : OutR R σ Γ T w (F ds M) (fun d _ w' => ∀ v, Rp R.K R.ca w' false v d → Q v w'.H)) : spF R.K R.ca F n vs w.H Q (fun cls dx H => R.W cls dx σ H) := by
  refine ⟨hl, w, ds, M, rfl, r, b.mem, b.zt, ?_⟩
  revert o
  cases F ds M with
  | ok d M' => exact fun o v w' e m z r => o w' e (b.call e m z) v r
  | err x M' => exact fun o cls dx w' e m z h => o cls dx w' e (b.call e m z) h
  | stuck => exact id
/-- a def is called -/
theorem cal_fn {dv : List Value} {ix : List Nat} {dfl : List D} {dvs : List V} (G : FnG X.prog X.w X.K X.mg X.base k f fd ps (spF R.K R.ca F ps.length)) (hr : Room k X.A) (hg : X.A.guards = some []) (hb : KB X.K fd ps n ks dv ix)
    (hd : Vals dvs dv) (hD : ∀ w, RpAll R.K R.ca w dvs dfl) (tk : Takes X R.W) : CalR X R (.ref f) n ks (pickF ix dfl F) := by
  intro pins s σ w Γ M T us ws vs zs ds es Q I b rv rz rd re hn hk o
  have r2 : Vals (vs ++ zs ++ dvs) (us ++ ws ++ dv) := (rv.append rz).append hd
  have rp2 : RpAll R.K R.ca w (vs ++ zs ++ dvs) (ds ++ es ++ dfl) := (rd.append re).append (hD w)
  have hix : ∀ i ∈ ix, i < (us ++ ws ++ dv).length := fun i hi => by
    have := hb.lt i hi
    rw [List.length_append, List.length_append, hn, hk]; exact this
  have hix2 : ∀ i ∈ ix, i < (ds ++ es ++ dfl).length := fun i hi => by
    rw [← rp2.length, r2.length]; exact hix i hi
  have sp := out_ok (n := ps.length) (vs := pick .non ix (vs ++ zs ++ dvs)) b (by unfold pick; rw [List.length_map]; exact hb.plen) (rp_pick rp2 ix hix2) o
  refine wpAny_call (codeAny_mono (G.run X.A X.stack s w.H ⟨us, ks.zip ws⟩ _ _ Q _ hr hg I.env0 (hb.to s us ws I.kIn hn hk) (vals_pick r2 ix hix) sp) fun r s' hq => ?_)
  cases r with
  | error e => exact tk e s' (XE.of_call I (fun _ _ _ h => h) hq)
  | ok fl =>
    cases fl with
    | ret u => exact I.after hq
    | next => exact False.elim hq
    | brk => exact False.elim hq
    | cont => exact False.elim hq
end

/-! ### argument lists -/
def noStar : Expr → Bool
  | .Starred _ _ => false
  | _ => true
theorem star_cons {e : Expr} {es : List Expr} {env : PySem.Env} (h : noStar e = true) : starEach (e :: es) env = (false, eval e env) :: starEach es env := by
  cases e <;> first | rfl | cases h
theorem star_any {env : PySem.Env} {pos : Pos} : ∀ {es : List Expr}, es.all noStar = true → (backTo pos (starEach es env)).any (·.1) = false
  | [], _ => rfl
  | e :: es, h => by
    rw [List.all_cons, Bool.and_eq_true] at h
    rw [star_cons h.1]
    show (false || (backTo pos (starEach es env)).any (·.1)) = false
    rw [star_any h.2]; rfl
theorem evs_app {Γ : Env} : ∀ (a b : Exs) (M : Mem), evs (a.app b) Γ M = bnd (evs a Γ M) fun ds M => bnd (evs b Γ M) fun es M => .ok (ds ++ es) M
  | .nil, b, M => by
    show evs b Γ M = bnd (evs b Γ M) fun es M => .ok es M
    cases evs b Γ M <;> rfl
  | .cons a r, b, M => by
    show bnd (ev a Γ M) (fun d M => bnd (evs (r.app b) Γ M) fun ds M => .ok (d :: ds) M) = bnd (bnd (ev a Γ M) fun d M => bnd (evs r Γ M) fun ds M => .ok (d :: ds) M) _
    cases ev a Γ M with
    | ok d M1 =>
      simp only [bnd_ok]
      rw [evs_app r b M1]
      cases evs r Γ M1 with
      | ok ds M2 => simp only [bnd_ok]; cases evs b Γ M2 <;> rfl
      | err x M2 => rfl
      | stuck => rfl
    | err x M1 => rfl
    | stuck => rfl

section
variable {X : Cx} {R : Rd0} {b : Bool} {e : Expr} {es : List Expr} {kws : List Keyword} {ia : Ex} {irs : Exs} {nm : Option Str} {kpos : Pos}
theorem PKmono {t t' : TA} (h : PK X kws t) (i : ∀ σ H Q, t' σ H Q → t σ H Q) : PK X kws t' := ⟨fun pos pins s σ H Q I q => h.run pos pins s σ H Q I (i σ H Q q)⟩
theorem k_nil : PK X [] (tA R b .nil) := PKmono pk_nil fun σ H Q ⟨w, Γ, M, T, hw, sr, o⟩ => by
  subst hw
  exact o.here sr [] .nil
theorem k_cons (ha : PE X e (tE R b ia)) (hr : PK X kws (tA R b irs)) : PK X (⟨nm, e, kpos⟩ :: kws) (tA R b (.cons ia irs)) :=
  PKmono (pk_cons ha hr) fun σ H Q ⟨w, Γ, M, T, hw, sr, o⟩ => by
    subst hw
    have o : OutR R σ Γ T w (bnd (ev ia Γ M) fun d M => bnd (evs irs Γ M) fun ds M => .ok (d :: ds) M) _ := o
    refine ⟨w, Γ, M, T, rfl, sr, o.bnd.imp fun d M1 w1 e1 s1 o1 v r => ?_⟩
    refine ⟨w1, Γ, M1, T, rfl, s1, o1.bnd.imp fun ds M2 w2 e2 s2 o2 vs rs => ?_⟩
    exact o2.here s2 (v :: vs) (.cons (r.ext e2) rs)
end

def kwNames : List Keyword → Option (List Str)
  | [] => some []
  | ⟨some n, _, _⟩ :: r => match kwNames r with
    | some ns => some (n :: ns)
    | none => none
  | ⟨none, _, _⟩ :: _ => none
theorem kw_all {env : PySem.Env} {pos : Pos} : ∀ {kws : List Keyword} {ks : List Str}, kwNames kws = some ks →
    (backToKw pos (keywordEach kws env)).all (·.1.isSome) = true ∧ (backToKw pos (keywordEach kws env)).filterMap (·.1) = ks ∧ (backToKw pos (keywordEach kws env)).any (·.1.isNone) = false
  | [], ks, h => by cases h; exact ⟨rfl, rfl, rfl⟩
  | ⟨some n, e, p⟩ :: r, ks, h => by
    unfold kwNames at h
    cases q : kwNames r with
    | none => rw [q] at h; cases h
    | some ns =>
      rw [q] at h
      cases h
      obtain ⟨h1, h2, h3⟩ := kw_all (env := env) (pos := pos) q
      refine ⟨?_, ?_, ?_⟩
      · show (true && (backToKw pos (keywordEach r env)).all (·.1.isSome)) = true
        rw [h1]; rfl
      · show n :: (backToKw pos (keywordEach r env)).filterMap (·.1) = n :: ns
        rw [h2]
      · show (false || (backToKw pos (keywordEach r env)).any (·.1.isNone)) = false
        rw [h3]; rfl
  | ⟨none, e, p⟩ :: r, ks, h => by cases h

section
variable {X : Cx} {R : Rd0} {es : List Expr} {kws : List Keyword} {x : Str} {p pos : Pos} {ia ik : Exs} {ks : List Str} {F : Fn} {fv : Value} {n : Nat}

theorem evs_length {Γ : Env} : ∀ (a : Exs) (M : Mem) {ds : List D} {M' : Mem}, evs a Γ M = .ok ds M' → ds.length = a.len
  | .nil, M, ds, M', h => by cases h; rfl
  | .cons a r, M, ds, M', h => by
    have h : bnd (ev a Γ M) (fun d M => bnd (evs r Γ M) fun ds M => .ok (d :: ds) M) = .ok ds M' := h
    cases q : ev a Γ M with
    | ok d M1 =>
      rw [q] at h
      simp only [bnd_ok] at h
      cases q2 : evs r Γ M1 with
      | ok es M2 =>
        rw [q2] at h
        cases h
        show es.length + 1 = r.len + 1
        rw [evs_length r M1 q2]
      | err x M2 => rw [q2] at h; cases h
      | stuck => rw [q2] at h; cases h
    | err x M1 => rw [q] at h; cases h
    | stuck => rw [q] at h; cases h

/-- behind the arguments: the call -/
theorem OutR.len {σ : L2.St} {Γ : Env} {T : List Addr} {w : Wd} {a : Exs} {M : Mem} {Q : List D → Mem → Wd → Prop} (h : OutR R σ Γ T w (evs a Γ M) Q) : OutR R σ Γ T w (evs a Γ M) fun ds M' w' => ds.length = a.len ∧ Q ds M' w' := by
  cases q : evs a Γ M with
  | ok ds M' =>
    rw [q] at h
    exact fun w' e s => ⟨evs_length a M q, h w' e s⟩
  | err x M' => rw [q] at h; exact h
  | stuck => rw [q] at h; exact h

theorem args2 {σ : L2.St} {Γ : Env} {T : List Addr} {w : Wd} {M : Mem} {Q : D → Mem → Wd → Prop} (o : OutR R σ Γ T w (ev (.app F (ia.app ik)) Γ M) Q) :
    OutR R σ Γ T w (bnd (evs ia Γ M) fun ds M => bnd (evs ik Γ M) fun es M => F (ds ++ es) M) Q := by
  have o : OutR R σ Γ T w (bnd (evs (ia.app ik) Γ M) F) _ := o
  rw [evs_app] at o
  revert o
  cases evs ia Γ M with
  | ok x M1 => simp only [bnd_ok]; cases evs ik Γ M1 <;> exact id
  | err x M1 => exact id
  | stuck => exact id
/-- behind the positional values: the keywords', then the call -/
theorem call_last {pins : List (Addr × Obj)} {σ : L2.St} {Γ : Env} {T : List Addr} {Q : VK} (hc : CalR X R fv n ks F) (hkw : PK X kws (tA R false ik)) (hks : kwNames kws = some ks) (hl : ik.len = ks.length)
    (s1 : Shared) (us : List Value) (vs : List V) (ds : List D) (M1 : Mem) (w1 : Wd) (I1 : Inv X pins σ w1.H s1) (b1 : Bears R w1 σ Γ M1 T) (rv : Vals vs us) (rd : RpAll R.K R.ca w1 vs ds) (hlen : us.length = n)
    (o1 : OutR R σ Γ T w1 (bnd (evs ik Γ M1) fun es M => F (ds ++ es) M) (fun d _ w' => ∀ v, Rp R.K R.ca w' false v d → Q v w'.H)) :
    wpAny (model X.prog X.w) X.A (evalAll ((backToKw pos (keywordEach kws X.env)).map (·.2))) (fun ws s₂ => X.K.In s₂.heap ∧ wpAny (model X.prog X.w) X.A (call fv us (((backToKw pos (keywordEach kws X.env)).filterMap (·.1)).zip ws)) (EP X pins σ Q) X.xe s₂) X.xe s1 := by
  obtain ⟨k1, k2, k3⟩ := kw_all (env := X.env) (pos := pos) hks
  refine thn (hkw.run pos pins s1 σ w1.H (fun zs H' => ∃ es M2 w2, w2.H = H' ∧ Ext w1 w2 ∧ Bears R w2 σ Γ M2 T ∧ RpAll R.K R.ca w2 zs es ∧ es.length = ik.len ∧ OutR R σ Γ T w2 (F (ds ++ es) M2) (fun d _ w' => ∀ v, Rp R.K R.ca w' false v d → Q v w'.H)) I1
    ⟨w1, Γ, M1, T, rfl, b1, o1.bnd.len.imp fun es M2 w2 e2 b2 ⟨hl2, o2⟩ zs rz => ⟨es, M2, w2, rfl, e2, b2, rz.down, hl2, o2⟩⟩) fun ws s2 ⟨zs, H2, I2, rz, es, M2, w2, hw2, e2, b2, re, hl2, o2⟩ => ?_
  subst hw2
  refine ⟨I2.kIn, ?_⟩
  rw [k2]
  exact hc pins s2 σ w2 Γ M2 T us ws vs zs ds es Q I2 b2 rv rz (rd.ext e2) re hlen (by rw [← rz.length, re.length, hl2, hl]) o2
/-- g(e, .., k = v, ..), g a module's name -/
theorem e_call {e : Expr} (hg : Gl X x) (hm : X.mg x = some fv) (hk : PySem.W.keepIn X.K fv = true) (hc : CalR X R fv ia.len ks F) (ha : PA X (e :: es) (tA R false ia)) (hkw : PK X kws (tA R false ik)) (hks : kwNames kws = some ks) (hl : ik.len = ks.length) (hs : (e :: es).all noStar = true)
    (hdb : (x == ("__debug__" : Str)) = false) : PE X (.Call (.Name x p) (e :: es) kws pos) (tE R false (.app F (ia.app ik))) := by
  refine ⟨fun pins s σ H Q I h => ?_⟩
  obtain ⟨w, Γ, M, T, hw, sr, o⟩ := h
  subst hw
  have o' := args2 o
  obtain ⟨k1, k2, k3⟩ := kw_all (env := X.env) (pos := pos) hks
  refine wpAny_Call_Name_kw (ld_glob I hg hm ?_ hdb)
  rw [List.all_cons, Bool.and_eq_true] at hs
  refine PySem.W.callWith_KW (h₀ := X.base) I.ok.mod.kin hk k1 ?_ (by
    rw [star_cons hs.1]
    show ((false || (backTo pos (starEach es X.env)).any (·.1)) || (backToKw pos (keywordEach kws X.env)).any (·.1.isNone)) = false
    rw [star_any hs.2, k3]; rfl) (star_cons hs.1)
  refine thn (ha.run pos pins s σ w.H (fun vs H' => ∃ ds M1 w1, w1.H = H' ∧ Ext w w1 ∧ Bears R w1 σ Γ M1 T ∧ RpAll R.K R.ca w1 vs ds ∧ ds.length = ia.len ∧ OutR R σ Γ T w1 (bnd (evs ik Γ M1) fun es M => F (ds ++ es) M) (fun d _ w' => ∀ v, Rp R.K R.ca w' false v d → Q v w'.H)) I
    ⟨w, Γ, M, T, rfl, sr, o'.bnd.len.imp fun ds M1 w1 e1 b1 ⟨hl1, o1⟩ vs rs => ⟨ds, M1, w1, rfl, e1, b1, rs.down, hl1, o1⟩⟩) fun us s1 ⟨vs, H1, I1, rv, ds, M1, w1, hw1, e1, b1, rd, hl1, o1⟩ => ?_
  subst hw1
  exact call_last hc hkw hks hl s1 us vs ds M1 w1 I1 b1 rv rd (by rw [← rv.length, rd.length, hl1]) o1
/-- g(k = v, ..) -/
theorem e_call0 (hg : Gl X x) (hm : X.mg x = some fv) (hk : PySem.W.keepIn X.K fv = true) (hc : CalR X R fv 0 ks F) (hkw : PK X kws (tA R false ik)) (hks : kwNames kws = some ks) (hl : ik.len = ks.length)
    (hdb : (x == ("__debug__" : Str)) = false) : PE X (.Call (.Name x p) [] kws pos) (tE R false (.app F ik)) := by
  refine ⟨fun pins s σ H Q I h => ?_⟩
  obtain ⟨w, Γ, M, T, hw, sr, o⟩ := h
  subst hw
  have o : OutR R σ Γ T w (bnd (evs ik Γ M) F) _ := o
  obtain ⟨k1, k2, k3⟩ := kw_all (env := X.env) (pos := pos) hks
  refine wpAny_Call_Name_kw (ld_glob I hg hm ?_ hdb)
  refine PySem.W.callWith_KW0 (h₀ := X.base) I.ok.mod.kin hk k1 ?_ (by
    show (false || (backToKw pos (keywordEach kws X.env)).any (·.1.isNone)) = false
    rw [k3]; rfl)
  exact call_last hc hkw hks hl s [] [] [] M w I sr .nil .nil rfl o
/-- one argument, two, three -/
theorem a1 {σ : L2.St} {Γ : Env} {T : List Addr} {w : Wd} {M : Mem} {a : Ex} {Q : D → Mem → Wd → Prop} (o : OutR R σ Γ T w (ev (.app F (.cons a .nil)) Γ M) Q) :
    OutR R σ Γ T w (evs (.cons a .nil) Γ M) fun ds M1 w1 => ∃ x, ds = [x] ∧ OutR R σ Γ T w1 (F [x] M1) Q :=
  (OutR.len (OutR.bnd (r := evs (.cons a .nil) Γ M) o)).imp fun ds M1 w1 e1 b1 ⟨hl, o1⟩ => by
    match ds, hl with
    | [x], _ => exact ⟨x, rfl, o1⟩
theorem a2 {σ : L2.St} {Γ : Env} {T : List Addr} {w : Wd} {M : Mem} {a c : Ex} {Q : D → Mem → Wd → Prop} (o : OutR R σ Γ T w (ev (.app F (.cons a (.cons c .nil))) Γ M) Q) :
    OutR R σ Γ T w (evs (.cons a (.cons c .nil)) Γ M) fun ds M1 w1 => ∃ x y, ds = [x, y] ∧ OutR R σ Γ T w1 (F [x, y] M1) Q :=
  (OutR.len (OutR.bnd (r := evs (.cons a (.cons c .nil)) Γ M) o)).imp fun ds M1 w1 e1 b1 ⟨hl, o1⟩ => by
    match ds, hl with
    | [x, y], _ => exact ⟨x, y, rfl, o1⟩
theorem a3 {σ : L2.St} {Γ : Env} {T : List Addr} {w : Wd} {M : Mem} {a c d : Ex} {Q : D → Mem → Wd → Prop} (o : OutR R σ Γ T w (ev (.app F (.cons a (.cons c (.cons d .nil)))) Γ M) Q) :
    OutR R σ Γ T w (evs (.cons a (.cons c (.cons d .nil))) Γ M) fun ds M1 w1 => ∃ x y z, ds = [x, y, z] ∧ OutR R σ Γ T w1 (F [x, y, z] M1) Q :=
  (OutR.len (OutR.bnd (r := evs (.cons a (.cons c (.cons d .nil))) Γ M) o)).imp fun ds M1 w1 e1 b1 ⟨hl, o1⟩ => by
    match ds, hl with
    | [x, y, z], _ => exact ⟨x, y, z, rfl, o1⟩
end

section
variable {K : PySem.W.Frag} {ca : String → Addr} {w : Wd} {b : Bool} {vs : List V} {x y z : D}
theorem RpB.one (r : RpB K ca w b vs [x]) : ∃ v, vs = [v] ∧ Rp K ca w b v x := by
  cases r with
  | cons h r => cases r; exact ⟨_, rfl, h⟩
theorem RpB.two (r : RpB K ca w b vs [x, y]) : ∃ v u, vs = [v, u] ∧ Rp K ca w b v x ∧ Rp K ca w b u y := by
  cases r with
  | cons h r =>
    obtain ⟨u, rfl, h2⟩ := r.one
    exact ⟨_, u, rfl, h, h2⟩
theorem RpB.three (r : RpB K ca w b vs [x, y, z]) : ∃ v u t, vs = [v, u, t] ∧ Rp K ca w b v x ∧ Rp K ca w b u y ∧ Rp K ca w b t z := by
  cases r with
  | cons h r =>
    obtain ⟨u, t, rfl, h2, h3⟩ := r.two
    exact ⟨_, u, t, rfl, h, h2, h3⟩
end

end Pk

set_option Elab.async false
set_option linter.all false
set_option autoImplicit false
set_option maxRecDepth 100000
set_option maxHeartbeats 1000000
/-! Sound4: statements; a def by its body. -/
namespace Pk
open PySem PySem.Spec PyProof.Rows L2

/-! ### fewer addresses protected -/
section
variable {K : PySem.W.Frag} {ca : String → Addr} {w w' : Wd}
structure Less (w w' : Wd) : Prop where
  κ : w'.κ = w.κ
  H : w'.H = w.H
  z : ∀ a, w'.Z a → w.Z a
theorem TupA.less {a : Addr} {xs : List V} (l : Less w w') (h : TupA K w a xs) : TupA K w' a xs := by
  rcases h with ⟨h, n, z⟩ | h
  · exact .inl ⟨l.H ▸ h, l.κ ▸ n, fun x => z (l.z _ x)⟩
  · exact .inr h
mutual
theorem Rp.less (l : Less w w') : ∀ {b : Bool} {v : V} {d : D}, Rp K ca w b v d → Rp K ca w' b v d
  | _, _, _, .non => .non
  | _, _, _, .bl x => .bl x
  | _, _, _, .int i => .int i
  | _, _, _, .str s => .str s
  | _, _, _, .lst h n z r => .lst (l.H ▸ h) (l.κ ▸ n) (fun q x => z q (l.z _ x)) (RpAll.less l r)
  | _, _, _, .tup h r => .tup (h.less l) (RpAll.less l r)
  | _, _, _, .scr h r => .scr (by
      rcases h with ⟨o, h, n⟩ | h
      · exact .inl ⟨o, l.H ▸ h, l.κ ▸ n⟩
      · exact .inr h) (RpAll.less l r)
  | _, _, _, .dK h n k r => .dK (l.H ▸ h) (l.κ ▸ n) k (RpAll.less l r)
  | _, _, _, .dO h n k r => .dO (l.H ▸ h) (l.κ ▸ n) k (RpAll.less l r)
  | _, _, _, .ins h n z k r => .ins (l.H ▸ h) (l.κ ▸ n) (fun q x => z q (l.z _ x)) k (RpAll.less l r)
  | _, _, _, .ref h => .ref (l.κ ▸ h)
  | _, _, _, .cls c => .cls c
theorem RpAll.less (l : Less w w') : ∀ {vs : List V} {ds : List D}, RpAll K ca w vs ds → RpAll K ca w' vs ds
  | _, _, .nil => .nil
  | _, _, .cons h r => .cons (Rp.less l h) (RpAll.less l r)
end
theorem CellC.less (l : Less w w') {p : Addr} {c : Cell} (h : CellC K ca w p c) : CellC K ca w' p c := by
  cases c with
  | lst ds => obtain ⟨vs, x, r⟩ := h; exact ⟨vs, l.H ▸ x, r.less l⟩
  | ins c ns ds => obtain ⟨dx, fs, x, k, r⟩ := h; exact ⟨dx, fs, l.H ▸ x, k, r.less l⟩
theorem OwnC.less (l : Less w w') {p : Addr} (n : p ∉ w'.κ) (z : ¬ w'.Z p) : ∀ {d : D}, (∀ ks vs, d ≠ .dict ks vs) → OwnC K ca w p d → Rp K ca w' false (.ref p) d := by
  intro d nd h
  cases d <;> first | exact h.elim | exact absurd rfl (nd _ _) | skip
  case lst => obtain ⟨vs, h, r⟩ := h; exact .lst (l.H ▸ h) n (fun _ => z) (r.less l)
  case ins => obtain ⟨dx, fs, h, k, r⟩ := h; exact .ins (l.H ▸ h) n (fun _ => z) k (r.less l)
end

section
variable {R : Rd0} {w : Wd} {σ : L2.St} {Γ : Env} {M : Mem}
def OwnA (σ : L2.St) (Γ : Env) (a : Addr) : Prop := ∃ (i : Nat) (d : D), Γ[i]? = some (Slot.own d) ∧ σ[i]? = some (some (V.ref a))
def thawW (w : Wd) (σ : L2.St) (Γ : Env) : Wd := { w with Z := fun a => w.Z a ∧ ¬ OwnA σ Γ a }
theorem thaw_not {P : Prop} {s : Slot} {d : D} (h : (some s).map Slot.thaw = some (Slot.own d)) : P := by
  cases s with
  | no => cases h
  | val e => cases h
  | own e => cases e <;> cases h
/-- nothing is owned any more -/
theorem Bears.freeze (s : Bears R w σ Γ M []) : Bears { R with mu := [] } (thawW w σ Γ) σ (Pk.freeze Γ) M [] := by
  have l : Less w (thawW w σ Γ) := ⟨rfl, rfl, fun a h => h.1⟩
  have own0 : ∀ a, OwnA σ Γ a → R.w0.H a = none ∧ a ∉ w.κ := fun a ⟨i, d, h1, h2⟩ => by
    obtain ⟨p, q1, q2, q3, q4, q5, q6⟩ := s.own i d h1
    rw [h2] at q1
    injection q1 with q1
    injection q1 with q1
    injection q1 with q1
    subst q1
    exact ⟨q3, q4⟩
  refine ⟨⟨s.ext.κ, fun a h => s.ext.z a h.1, fun a h => ⟨s.ext.z2 a h, fun o => s.zt0 a h (own0 a o).1⟩, s.ext.keep, s.ext.there⟩, s.zt0, fun a h => s.zt a h.1, by rw [s.len]; simp [Pk.freeze], fun i d h => ?_, fun i d h => ?_, fun i d h => ?_, fun i j d e p h => ?_, (fun _ h => nomatch h), List.nodup_nil, s.mem.len, s.mem.nd, fun a h => ⟨s.mem.z a h, fun o => (own0 a o).2 h⟩, fun k c h => ?_⟩
  · unfold Pk.freeze at h
    rw [List.getElem?_map] at h
    cases q : Γ[i]? with
    | none => rw [q] at h; cases h
    | some sl =>
      rw [q] at h
      cases sl with
      | no => cases h
      | val d' =>
        cases h
        obtain ⟨v, h1, h2⟩ := s.val i d q
        exact ⟨v, h1, h2.less l⟩
      | own d' =>
        have nd : ∀ ks vs, d' ≠ .dict ks vs := fun ks vs e => by subst e; cases h
        have e : d' = d := by cases d' <;> first | exact absurd rfl (nd _ _) | (cases h; rfl)
        subst e
        obtain ⟨p, q1, q2, q3, q4, q5, q6⟩ := s.own i d' q
        exact ⟨.ref p, q1, OwnC.less l q4 (fun z => z.2 ⟨i, d', q, q1⟩) nd q6⟩
  · exfalso
    unfold Pk.freeze at h
    rw [List.getElem?_map] at h
    cases q : Γ[i]? with
    | none => rw [q] at h; cases h
    | some sl => rw [q] at h; exact thaw_not h
  · exfalso
    unfold Pk.freeze at h
    rw [List.getElem?_map] at h
    cases q : Γ[i]? with
    | none => rw [q] at h; cases h
    | some sl => rw [q] at h; exact thaw_not h
  · exfalso
    unfold Pk.freeze at h
    rw [List.getElem?_map] at h
    cases q : Γ[i]? with
    | none => rw [q] at h; cases h
    | some sl => rw [q] at h; exact thaw_not h
  · obtain ⟨a, h1, h2⟩ := s.mem.at_ k c h
    exact ⟨a, h1, h2.less l⟩
end

/-! ### what statements keep -/
/-- values stay values; protected objects (owned lists, cells) may have changed -/
structure Pres (w w' : Wd) : Prop where
  κ : ∃ more, w'.κ = w.κ ++ more ∧ ∀ a ∈ more, w.H a = none
  z : ∀ a, w'.Z a → w.Z a ∨ w.H a = none
  keep : ∀ a o, w.H a = some o → ¬ w.Z a → w'.H a = some o
  frz : ∀ a o u, w.H a = some (.frz o u) → w'.H a = some (.frz o u)
  there : ∀ a, w.H a ≠ none → w'.H a ≠ none
section
variable {K : PySem.W.Frag} {ca : String → Addr} {w w' w'' : Wd}
theorem Pres.refl (w : Wd) : Pres w w := ⟨⟨[], by simp, fun _ h => nomatch h⟩, fun _ h => .inl h, fun _ _ h _ => h, fun _ _ _ h => h, fun _ h => h⟩
theorem Pres.nn (e : Pres w w') {a : Addr} (h : w'.H a = none) : w.H a = none := by
  cases q : w.H a with
  | none => rfl
  | some o => exact absurd h (e.there a (by rw [q]; simp))
theorem Pres.notκ (e : Pres w w') {a : Addr} {o : HO} (h : w.H a = some o) (n : a ∉ w.κ) : a ∉ w'.κ := by
  obtain ⟨m, q, hm⟩ := e.κ
  rw [q]
  intro z
  rcases List.mem_append.mp z with z | z
  · exact n z
  · rw [hm a z] at h; cases h
theorem Pres.notZ (e : Pres w w') {a : Addr} {o : HO} (h : w.H a = some o) (n : ¬ w.Z a) : ¬ w'.Z a := fun z => by
  rcases e.z a z with z | z
  · exact n z
  · rw [z] at h; cases h
theorem Pres.trans (a : Pres w w') (b : Pres w' w'') : Pres w w'' := by
  obtain ⟨m1, q1, h1⟩ := a.κ
  obtain ⟨m2, q2, h2⟩ := b.κ
  refine ⟨⟨m1 ++ m2, by rw [q2, q1, List.append_assoc], fun c hc => ?_⟩, fun c hc => ?_, fun c o h n => b.keep c o (a.keep c o h n) (a.notZ h n), fun c o u h => b.frz c o u (a.frz c o u h), fun c h => b.there c (a.there c h)⟩
  · rcases List.mem_append.mp hc with hc | hc
    · exact h1 c hc
    · exact a.nn (h2 c hc)
  · rcases b.z c hc with z | z
    · exact a.z c z
    · exact .inr (a.nn z)
theorem TupA.pres {a : Addr} {xs : List V} (e : Pres w w') (h : TupA K w a xs) : TupA K w' a xs := by
  rcases h with ⟨h, n, z⟩ | h
  · exact .inl ⟨e.keep _ _ h z, e.notκ h n, e.notZ h z⟩
  · exact .inr h
mutual
theorem Rp.pres (e : Pres w w') : ∀ {v : V} {d : D}, Rp K ca w false v d → Rp K ca w' false v d
  | _, _, .non => .non
  | _, _, .bl x => .bl x
  | _, _, .int i => .int i
  | _, _, .str s => .str s
  | _, _, .lst h n z r => .lst (e.keep _ _ h (z rfl)) (e.notκ h n) (fun _ => e.notZ h (z rfl)) (RpAll.pres e r)
  | _, _, .tup h r => .tup (h.pres e) (RpAll.pres e r)
  | _, _, .scr h r => .scr (by
      rcases h with ⟨o, h, n⟩ | h
      · exact .inl ⟨o, e.frz _ _ _ h, e.notκ h n⟩
      · exact .inr h) (RpAll.pres e r)
  | _, _, .dK h n k r => .dK (e.frz _ _ _ h) (e.notκ h n) k (RpAll.pres e r)
  | _, _, .ins h n z k r => .ins (e.keep _ _ h (z rfl)) (e.notκ h n) (fun _ => e.notZ h (z rfl)) k (RpAll.pres e r)
  | _, _, .cls c => .cls c
  | _, _, .ref h => .ref (by
      obtain ⟨m, q, _⟩ := e.κ
      rw [q]
      rw [List.getElem?_append_left (by rcases List.getElem?_eq_some_iff.mp h with ⟨z, _⟩; exact z)]
      exact h)
theorem RpAll.pres (e : Pres w w') : ∀ {vs : List V} {ds : List D}, RpAll K ca w vs ds → RpAll K ca w' vs ds
  | _, _, .nil => .nil
  | _, _, .cons h r => .cons (Rp.pres e h) (RpAll.pres e r)
end
theorem Ext.pres {R : Rd0} {σ : L2.St} {Γ : Env} {M : Mem} {T : List Addr} (e : Ext w w') (b : Bears R w σ Γ M T) : Pres w w' := by
  refine ⟨e.κ, e.z, fun a o h n => e.keep a o h fun q => n (b.mem.z a q), fun a o u h => e.keep a _ h fun q => ?_, e.there⟩
  obtain ⟨k, hk⟩ := List.mem_iff_getElem?.mp q
  have hl : k < M.length := by
    rw [← b.mem.len]
    rcases List.getElem?_eq_some_iff.mp hk with ⟨z, _⟩
    exact z
  obtain ⟨a', h1, h2⟩ := b.mem.at_ k M[k] (List.getElem?_eq_getElem hl)
  rw [hk] at h1
  cases h1
  revert h2
  cases M[k] with
  | lst ds => rintro ⟨vs, x, _⟩; rw [h] at x; cases x
  | ins c ns ds => rintro ⟨dx, fs, x, _⟩; rw [h] at x; cases x
end

/-! ### statements -/
def OutS (R : Rd0) (w : Wd) (r : RS) (D : Ends) : Prop :=
  match r with
  | .next Γ' M' => ∀ σ' w', Pres w w' → Bears R w' σ' Γ' M' [] → D.nx σ' w'.H
  | .brk Γ' M' => ∀ σ' w', Pres w w' → Bears R w' σ' Γ' M' [] → D.bk σ' w'.H
  | .cont Γ' M' => ∀ σ' w', Pres w w' → Bears R w' σ' Γ' M' [] → D.ct σ' w'.H
  | .ret d M' => ∀ v w', Ext R.w0 w' → MemOk R.K R.ca w' M' → (∀ a, w'.Z a → w'.H a ≠ none) → Rp R.K R.ca w' false v d → D.rt v w'.H
  | .err e Γ' M' => ∀ σ' cls dx w', Pres w w' → Bears R w' σ' Γ' M' [] → ExR R.K R.ca w' e cls dx → R.W cls dx σ' w'.H
  | .stuck => False
def tM (R : Rd0) (s : Sm) : TS := fun D σ H => ∃ w Γ M, w.H = H ∧ Bears R w σ Γ M [] ∧ OutS R w (evS s Γ M) D
def tMs (R : Rd0) (b : Sms) : TS := fun D σ H => ∃ w Γ M, w.H = H ∧ Bears R w σ Γ M [] ∧ OutS R w (evSs b Γ M) D

section
variable {X : Cx} {R : Rd0} {st : Stmt} {sts : List Stmt} {e : Expr} {pos : Pos} {ir ic : Ex} {m : Sm} {ms ma mb : Sms} {t t' : TS} {D : Ends}
theorem PSmono (h : PS X st t) (i : ∀ D σ H, t' D σ H → t D σ H) : PS X st t' := ⟨fun pins s σ H D I q => h.run pins s σ H D I (i D σ H q)⟩
theorem PSsmono (h : PSs X sts t) (i : ∀ D σ H, t' D σ H → t D σ H) : PSs X sts t' := ⟨fun pins s σ H D I q => h.run pins s σ H D I (i D σ H q)⟩
theorem OutS.fwd {r : RS} {w w1 : Wd} (h : OutS R w r D) (p : Pres w w1) : OutS R w1 r D := by
  cases r with
  | next Γ M => exact fun σ' w' q => h σ' w' (p.trans q)
  | brk Γ M => exact fun σ' w' q => h σ' w' (p.trans q)
  | cont Γ M => exact fun σ' w' q => h σ' w' (p.trans q)
  | ret d M => exact h
  | err e Γ M => exact fun σ' cls dx w' q => h σ' cls dx w' (p.trans q)
  | stuck => exact h
/-- a value, then a statement's rest -/
theorem OutS.vS {α : Type} {x : Res α} {f : α → Mem → RS} {w : Wd} {σ : L2.St} {Γ : Env} {M : Mem} (b : Bears R w σ Γ M []) (h : OutS R w (Pk.vS x Γ f) D) : OutR R σ Γ [] w x fun a M1 w1 => OutS R w1 (f a M1) D := by
  cases x with
  | ok a M => exact fun w' e s => OutS.fwd (r := f a M) h (e.pres b)
  | err x M => exact fun cls dx w' e s q => h σ cls dx w' (e.pres b) s q
  | stuck => exact h

theorem ss_nil : PSs X [] (tMs R .nil) := PSsmono pss_nil fun D σ H ⟨w, Γ, M, hw, b, o⟩ => by
  subst hw
  exact (show ∀ σ' w', Pres w w' → Bears R w' σ' Γ M [] → D.nx σ' w'.H from o) σ w (.refl w) b
theorem ss_cons (h1 : PS X st (tM R m)) (h2 : PSs X sts (tMs R ms)) : PSs X (st :: sts) (tMs R (.cons m ms)) :=
  PSsmono (pss_cons h1 h2) fun D σ H ⟨w, Γ, M, hw, b, o⟩ => by
    refine ⟨w, Γ, M, hw, b, ?_⟩
    have o : OutS R w (match evS m Γ M with | .next Γ M => evSs ms Γ M | x => x) D := o
    revert o
    cases evS m Γ M with
    | next Γ' M' => exact fun o σ' w' p b' => ⟨w', Γ', M', rfl, b', OutS.fwd (r := evSs ms Γ' M') o p⟩
    | ret d M' => exact id
    | brk Γ' M' => exact id
    | cont Γ' M' => exact id
    | err e Γ' M' => exact id
    | stuck => exact id
theorem s_pass : PS X (.Pass pos) (tM R .pass) := PSmono ps_pass fun D σ H ⟨w, Γ, M, hw, b, o⟩ => by
  subst hw
  exact (show ∀ σ' w', Pres w w' → Bears R w' σ' Γ M [] → D.nx σ' w'.H from o) σ w (.refl w) b
theorem s_brk : PS X (.Break pos) (tM R .brk) := PSmono ps_break fun D σ H ⟨w, Γ, M, hw, b, o⟩ => by
  subst hw
  exact (show ∀ σ' w', Pres w w' → Bears R w' σ' Γ M [] → D.bk σ' w'.H from o) σ w (.refl w) b
theorem s_cont : PS X (.Continue pos) (tM R .cont) := PSmono ps_continue fun D σ H ⟨w, Γ, M, hw, b, o⟩ => by
  subst hw
  exact (show ∀ σ' w', Pres w w' → Bears R w' σ' Γ M [] → D.ct σ' w'.H from o) σ w (.refl w) b
/-- an expression alone -/
theorem s_ex (he : PE X e (tE R false ir)) (hs : swapsWith e none pos.line X.env = pure false) : PS X (.Expr e pos) (tM R (.ex ir)) :=
  PSmono (ps_expr he hs) fun D σ H ⟨w, Γ, M, hw, b, o⟩ => by
    subst hw
    have o : OutS R w (Pk.vS (ev ir Γ M) Γ fun _ M => .next Γ M) D := o
    exact ⟨w, Γ, M, [], rfl, b, (OutS.vS b o).imp fun d M1 w1 e1 b1 o1 v r => o1 σ w1 (.refl w1) b1⟩
/-- return e; what was owned is not any more -/
theorem s_ret (he : PE X e (tE { R with mu := [] } false ir)) : PS X (.Return (some e) pos) (tM R (.ret ir)) :=
  PSmono (ps_ret he) fun D σ H ⟨w, Γ, M, hw, b, o⟩ => by
    subst hw
    have o : OutS R w (Pk.vS (ev ir (Pk.freeze Γ) M) (Pk.freeze Γ) fun d M => .ret d M) D := o
    refine ⟨thawW w σ Γ, Pk.freeze Γ, M, [], rfl, b.freeze, ?_⟩
    revert o
    cases ev ir (Pk.freeze Γ) M with
    | ok d M1 => exact fun o w' e b' v r => o v w' b'.ext b'.mem b'.zt r
    | err x M1 =>
      intro o cls dx w' e b' h
      have p0 : Pres w (thawW w σ Γ) := ⟨⟨[], by simp [thawW], fun _ h => nomatch h⟩, fun a h => .inl h.1, fun a u h _ => h, fun _ _ _ h => h, fun _ h => h⟩
      exact o σ cls dx w' (p0.trans (e.pres b.freeze)) ⟨b'.ext, b'.zt0, b'.zt, b'.len, b'.val, b'.own, (fun i d q => absurd (b'.mu i d q) (by simp)), b'.apart, b'.tmp, b'.tnd, b'.mem⟩ h
    | stuck => exact id
end

/-! ### names stored -/
section
variable {R : Rd0} {w w' : Wd} {σ : L2.St} {Γ : Env} {M M' : Mem} {T : List Addr} {v : V} {d : D} {p : Addr}
theorem set_at {α : Type} {l : List α} {i j : Nat} {a b : α} (h : (l.set i a)[j]? = some b) : (i = j ∧ b = a) ∨ (i ≠ j ∧ l[j]? = some b) := by
  rw [List.getElem?_set] at h
  by_cases e : i = j
  · rw [if_pos e] at h
    by_cases hl : i < l.length
    · rw [if_pos hl] at h; cases h; exact .inl ⟨e, rfl⟩
    · rw [if_neg hl] at h; cases h
  · rw [if_neg e] at h
    exact .inr ⟨e, h⟩
theorem set_ne {α : Type} {l : List α} {i j : Nat} {a : α} (h : i ≠ j) : (l.set i a)[j]? = l[j]? := by
  rw [List.getElem?_set, if_neg h]
theorem set_eq {α β : Type} {l : List α} {i : Nat} {a : α} {b c : β} {l' : List β} (hl : l'.length = l.length) (h : (l'.set i b)[i]? = some c) : (l.set i a)[i]? = some a := by
  rw [List.getElem?_set, if_pos rfl] at h ⊢
  by_cases hi : i < l'.length
  · rw [if_pos (by omega)]
  · rw [if_neg hi] at h; cases h
/-- a name takes a value -/
theorem Bears.setN (s : Bears R w σ Γ M T) (i : Nat) (r : Rp R.K R.ca w false v d) : Bears R w (σ.set i (some v)) (Pk.setN Γ i d) M T := by
  unfold Pk.setN
  refine ⟨s.ext, s.zt0, s.zt, by simp [s.len], fun j e h => ?_, fun j e h => ?_, fun j e h => ?_, fun j l e e' q h1 h2 h3 h4 => ?_, s.tmp, s.tnd, s.mem⟩
  · rcases set_at h with ⟨rfl, q⟩ | ⟨hne, q⟩
    · cases q
      exact ⟨v, set_eq s.len.symm h, r⟩
    · obtain ⟨u, h1, h2⟩ := s.val j e q
      exact ⟨u, by rw [set_ne hne]; exact h1, h2⟩
  · rcases set_at h with ⟨rfl, q⟩ | ⟨hne, q⟩
    · cases q
    · obtain ⟨u, h1, h2⟩ := s.own j e q
      exact ⟨u, by rw [set_ne hne]; exact h1, h2⟩
  · rcases set_at h with ⟨rfl, q⟩ | ⟨hne, q⟩
    · cases q
    · exact s.mu j e q
  · rcases set_at h1 with ⟨rfl, q1⟩ | ⟨n1, q1⟩
    · cases q1
    · rcases set_at h2 with ⟨rfl, q2⟩ | ⟨n2, q2⟩
      · cases q2
      · rw [set_ne n1] at h3
        rw [set_ne n2] at h4
        exact s.apart j l e e' q q1 q2 h3 h4
/-- a name takes a new list, dict or instance -/
theorem Bears.setO (s : Bears R w σ Γ M (p :: T)) (i : Nat) (hi : i ∈ R.mu) (o : OwnC R.K R.ca w p d) : Bears R w (σ.set i (some (.ref p))) (Pk.setO Γ i d) M T := by
  obtain ⟨z, z0, nk⟩ := s.tmp p List.mem_cons_self
  have nT : p ∉ T := (List.nodup_cons.mp s.tnd).1
  have np : ∀ (j : Nat) (e : D), Γ[j]? = some (Slot.own e) → σ[j]? = some (some (V.ref p)) → False := fun j e h1 h2 => by
    obtain ⟨q, q1, _, _, _, q5, _⟩ := s.own j e h1
    rw [h2] at q1
    cases q1
    exact q5 List.mem_cons_self
  unfold Pk.setO
  refine ⟨s.ext, s.zt0, s.zt, by simp [s.len], fun j e h => ?_, fun j e h => ?_, fun j e h => ?_, fun j l e e' q h1 h2 h3 h4 => ?_, fun a ha => s.tmp a (List.mem_cons_of_mem _ ha), (List.nodup_cons.mp s.tnd).2, s.mem⟩
  · rcases set_at h with ⟨rfl, q⟩ | ⟨hne, q⟩
    · cases q
    · obtain ⟨u, h1, h2⟩ := s.val j e q
      exact ⟨u, by rw [set_ne hne]; exact h1, h2⟩
  · rcases set_at h with ⟨rfl, q⟩ | ⟨hne, q⟩
    · cases q
      exact ⟨p, set_eq s.len.symm h, z, z0, nk, nT, o⟩
    · obtain ⟨u, h1, h2, h3, h4, h5, h6⟩ := s.own j e q
      exact ⟨u, by rw [set_ne hne]; exact h1, h2, h3, h4, fun x => h5 (List.mem_cons_of_mem _ x), h6⟩
  · rcases set_at h with ⟨rfl, q⟩ | ⟨hne, q⟩
    · exact hi
    · exact s.mu j e q
  · rcases set_at h1 with ⟨rfl, q1⟩ | ⟨n1, q1⟩
    · rcases set_at h2 with ⟨rfl, q2⟩ | ⟨n2, q2⟩
      · rfl
      · rcases set_at h3 with ⟨_, q3⟩ | ⟨n3, _⟩
        · cases q3
          rw [set_ne n2] at h4
          exact (np l e' q2 h4).elim
        · exact absurd rfl n3
    · rcases set_at h2 with ⟨rfl, q2⟩ | ⟨n2, q2⟩
      · rcases set_at h4 with ⟨_, q3⟩ | ⟨n3, _⟩
        · cases q3
          rw [set_ne n1] at h3
          exact (np j e q1 h3).elim
        · exact absurd rfl n3
      · rw [set_ne n1] at h3
        rw [set_ne n2] at h4
        exact s.apart j l e e' q q1 q2 h3 h4
end

section
variable {X : Cx} {R : Rd0} {e : Expr} {pos pos' : Pos} {ir : Ex} {x : Str} {i : Nat}
/-- x = e -/
theorem s_set (hN : X.N.Nodup) (hi : X.N[i]? = some x) (hx : Loc X.env.scope x) (he : PE X e (tE R false ir)) (hs : swapsWith e (some (.Name x pos')) pos.line X.env = pure false) (hf : X.fn x = true ∨ X.env.scope.names.lookup x = some .local) :
    PS X (.Assign [.Name x pos'] e pos) (tM R (.asg (.n i) ir)) :=
  PSmono (ps_set hN hi hx he hs hf) fun D σ H ⟨w, Γ, M, hw, b, o⟩ => by
    subst hw
    have o : OutS R w (Pk.vS (ev ir Γ M) Γ fun d M => asgAt (.n i) d Γ M) D := o
    exact ⟨w, Γ, M, [], rfl, b, (OutS.vS b o).imp fun d M1 w1 e1 b1 o1 v r => o1 _ w1 (.refl w1) (b1.setN i r)⟩
/-- x = a new list: x owns it -/
theorem s_own (hN : X.N.Nodup) (hi : X.N[i]? = some x) (hx : Loc X.env.scope x) (hm : i ∈ R.mu) (he : PE X e (tF R ir)) (hs : swapsWith e (some (.Name x pos')) pos.line X.env = pure false) (hf : X.fn x = true ∨ X.env.scope.names.lookup x = some .local) :
    PS X (.Assign [.Name x pos'] e pos) (tM R (.asg (.o i) ir)) :=
  PSmono (ps_set hN hi hx he hs hf) fun D σ H ⟨w, Γ, M, hw, b, o⟩ => by
    subst hw
    have o : OutS R w (Pk.vS (ev ir Γ M) Γ fun d M => asgAt (.o i) d Γ M) D := o
    exact ⟨w, Γ, M, [], rfl, b, (OutS.vS b o).imp fun d M1 w1 e1 b1 o1 p hp b2 oc => o1 _ w1 (.refl w1) (b2.setO i hm oc)⟩
variable {c : Expr} {sa sb : List Stmt} {ic : Ex} {ma mb : Sms}
theorem s_if (hc : PT X c (tT R ic)) (ha : PSs X sa (tMs R ma)) (hb : PSs X sb (tMs R mb)) : PS X (.If c sa sb pos) (tM R (.ite ic ma mb)) :=
  PSmono (ps_if hc ha hb) fun D σ H ⟨w, Γ, M, hw, b, o⟩ => by
    subst hw
    have o : OutS R w (Pk.vS (ev ic Γ M) Γ fun d M => Pk.vS (asBool d M) Γ fun t M => if t then evSs ma Γ M else evSs mb Γ M) D := o
    refine ⟨w, Γ, M, [], rfl, b, ?_⟩
    have o' : OutS R w (Pk.vS (bnd (ev ic Γ M) asBool) Γ fun t M => if t then evSs ma Γ M else evSs mb Γ M) D := by
      revert o
      cases ev ic Γ M <;> exact id
    refine (OutS.vS b o').imp fun t M1 w1 e1 b1 o1 => ?_
    cases t with
    | true => rw [if_pos rfl]; exact ⟨w1, Γ, M1, rfl, b1, o1⟩
    | false => rw [if_neg Bool.false_ne_true]; exact ⟨w1, Γ, M1, rfl, b1, o1⟩
end

end Pk

set_option Elab.async false
set_option linter.all false
set_option autoImplicit false
set_option maxRecDepth 100000
set_option maxHeartbeats 1000000
/-! Sound5: what is walked; targets; for. -/
namespace Pk
open PySem PySem.Spec PyProof.Rows L2

/-- in every later world the walk yields just these -/
def Rel (b : Bool) (w w' : Wd) : Prop := match b with
  | true => Ext w w'
  | false => Pres w w'
/-- what is protected stands there, cells are protected -/
structure Zok (w : Wd) : Prop where
  zt : ∀ a, w.Z a → w.H a ≠ none
  z : ∀ a ∈ w.κ, w.Z a
theorem Bears.zok {R : Rd0} {w : Wd} {σ : L2.St} {Γ : Env} {M : Mem} {T : List Addr} (b : Bears R w σ Γ M T) : Zok w := ⟨b.zt, b.mem.z⟩
def Yields (R : Rd0) (b : Bool) (J : It) (w1 : Wd) (ds : List D) : Prop := ∀ w, Rel b w1 w → Zok w → J.stop ds.length w.H ∧ ∀ i d, ds[i]? = some d → J.go i w.H ∧ ∀ x H', J.yld i w.H x H' → ∃ w', w'.H = H' ∧ (w' = w ∨ ∃ p o, w.H p = none ∧ w' = w.at p o) ∧ Rp R.K R.ca w' false x d

def tI (R : Rd0) (b : Bool) (it : Ex) : TI := fun σ H Q => ∃ w Γ M T, w.H = H ∧ Bears R w σ Γ M T ∧
  OutR R σ Γ T w (ev it Γ M) fun d _ w' => ∃ ds, items d = some ds ∧ ∀ J, ds.length ≤ sizeLine → Yields R b J w' ds → Q J w'.H

section
variable {X : Cx} {R : Rd0} {b : Bool} {tg e : Expr} {it : Ex} {w : Wd}
theorem PImono {t t' : TI} (h : PI X tg e t) (i : ∀ σ H Q, t' σ H Q → t σ H Q) : PI X tg e t' := ⟨fun pins s σ H Q I q => h.run pins s σ H Q I (i σ H Q q)⟩

theorem rel_at {w w1 : Wd} {a : Addr} {o : HO} (r : Rel b w w1) (h : w.H a = some o) (n : a ∉ w.κ) (z : b = false → ¬ w.Z a) : w1.H a = some o := by
  cases b with
  | true => exact Ext.keep (show Ext w w1 from r) a o h n
  | false => exact Pres.keep (show Pres w w1 from r) a o h (z rfl)
theorem rpall_rel {w w1 : Wd} {vs : List V} {ds : List D} (r : Rel b w w1) (h : RpAll R.K R.ca w vs ds) : RpAll R.K R.ca w1 vs ds := by
  cases b with
  | true => exact h.ext (show Ext w w1 from r)
  | false => exact h.pres (show Pres w w1 from r)
theorem yields_list {a : Addr} {vs : List V} {ds : List D} (h : w.H a = some (.lst vs)) (n : a ∉ w.κ) (z : b = false → ¬ w.Z a) (r : RpAll R.K R.ca w vs ds) : Yields R b (Itl R.K a) w ds := by
  intro w1 rel _
  have h1 := rel_at rel h n z
  refine ⟨⟨vs, .of h1, by rw [r.length]; exact Nat.le_refl _⟩, fun i d hd => ?_⟩
  obtain ⟨v, hv, rv⟩ := (rpall_rel rel r).get hd
  refine ⟨⟨vs, v, .of h1, hv⟩, fun x H' y => ?_⟩
  obtain ⟨e1, y⟩ := y
  have e2 := y vs (.of h1)
  rw [hv] at e2
  cases e2
  exact ⟨w1, e1.symm, .inl rfl, rv⟩
theorem yields_tup {a : Addr} {vs : List V} {ds : List D} (h : TupA R.K w a vs) (r : RpAll R.K R.ca w vs ds) : Yields R b (Itt R.K a) w ds := by
  intro w1 rel _
  have h1 : SqT R.K w1.H a vs := by
    rcases h with ⟨h, n, z⟩ | h
    · exact .of (rel_at rel h n (fun _ => z))
    · exact .inr h
  refine ⟨⟨vs, h1, by rw [r.length]; exact Nat.le_refl _⟩, fun i d hd => ?_⟩
  obtain ⟨v, hv, rv⟩ := (rpall_rel rel r).get hd
  refine ⟨⟨vs, v, h1, hv⟩, fun x H' y => ?_⟩
  obtain ⟨e1, y⟩ := y
  have e2 := y vs (h1)
  rw [hv] at e2
  cases e2
  exact ⟨w1, e1.symm, .inl rfl, rv⟩
theorem yields_str (s : Cs) : Yields R b (Its (sof s)) w (s.map fun c => .str [c]) := by
  intro w1 _ _
  refine ⟨by show (sof s).cps.size ≤ _; simp [sof], fun i d hd => ?_⟩
  rw [List.getElem?_map] at hd
  cases q : s[i]? with
  | none => rw [q] at hd; cases hd
  | some c =>
    rw [q] at hd
    cases hd
    refine ⟨by show i < (sof s).cps.size; have := (List.getElem?_eq_some_iff.mp q).1; simpa [sof] using this, fun x H' y => ?_⟩
    obtain ⟨e1, c', hc, e2⟩ := y
    have : (sof s).cps[i]? = s[i]? := by simp [sof]
    rw [this, q] at hc
    cases hc
    subst e2
    exact ⟨w1, e1.symm, .inl rfl, .str [c]⟩

theorem yields_keys {a : Addr} {o : Obj} {kvs : List (Key × V)} {ks : List D} (h : w.H a = some (.frz o (.dK kvs))) (n : a ∉ w.κ) (hf : b = true ∨ True) (r : Paired RpK (kvs.map (·.1)) ks) : Yields R b (Itk a o kvs) w ks := by
  intro w1 rel _
  have h1 : w1.H a = some (.frz o (.dK kvs)) := by
    cases b with
    | true => exact Ext.keep (show Ext w w1 from rel) a _ h n
    | false => exact Pres.frz (show Pres w w1 from rel) a _ _ h
  have hl : kvs.length = ks.length := by
    have := Paired.length r
    simpa using this
  refine ⟨⟨h1, by omega⟩, fun i d hd => ?_⟩
  have hi : i < ks.length := (List.getElem?_eq_some_iff.mp hd).1
  refine ⟨⟨h1, by omega⟩, fun x H' y => ?_⟩
  obtain ⟨e1, k, v, hk, ex⟩ := y
  refine ⟨w1, e1.symm, .inl rfl, ?_⟩
  have hk2 : (kvs.map (·.1))[i]? = some k := by rw [List.getElem?_map, hk]; rfl
  obtain ⟨d', hd', rk⟩ := L2.paired_get r hk2
  rw [hd] at hd'
  cases hd'
  subst ex
  cases rk with
  | int i => exact .int i
  | str s => exact .str s
theorem rangeL_get : ∀ (n : Nat) (lo : Int) (i : Nat) (d : D), (rangeL lo n)[i]? = some d → i < n ∧ d = .int (lo + i)
  | 0, _, _, _, h => by simp [rangeL] at h
  | n + 1, lo, 0, d, h => by
    simp [rangeL] at h
    exact ⟨by omega, by simp [← h]⟩
  | n + 1, lo, i + 1, d, h => by
    have h : (rangeL (lo + 1) n)[i]? = some d := by simpa [rangeL] using h
    obtain ⟨h1, h2⟩ := rangeL_get n (lo + 1) i d h
    exact ⟨by omega, by rw [h2]; congr 1; omega⟩
theorem rangeL_len : ∀ (n : Nat) (lo : Int), (rangeL lo n).length = n
  | 0, _ => rfl
  | n + 1, lo => by simp [rangeL, rangeL_len n]
theorem yields_range {lo : Int} {n : Nat} : Yields R b (Itr lo n) w (rangeL lo n) := by
  intro w1 _ _
  refine ⟨by show n ≤ _; rw [rangeL_len]; exact Nat.le_refl _, fun i d hd => ?_⟩
  obtain ⟨h1, h2⟩ := rangeL_get n lo i d hd
  refine ⟨h1, fun x H' y => ?_⟩
  obtain ⟨e1, e2⟩ := y
  subst e2 h2
  exact ⟨w1, e1.symm, .inl rfl, .int _⟩

/-- whatever a value is that may be walked -/
theorem i_any (hK : X.K = R.K) (he : PE X e (tE R false it)) : PI X tg e (tI R false it) := by
  refine ⟨fun pins s σ H Q I h => ?_⟩
  obtain ⟨w, Γ, M, T, hw, sr, o⟩ := h
  subst hw
  refine thn (he.run pins s σ w.H (fun v H1 => ∃ w1 d ds, w1.H = H1 ∧ Rp R.K R.ca w1 false v d ∧ items d = some ds ∧ ∀ J, ds.length ≤ sizeLine → Yields R false J w1 ds → Q J w1.H) I
    ⟨w, Γ, M, T, rfl, sr, o.imp fun d M1 w1 e1 b1 ⟨ds, hi, hq⟩ v r => ⟨w1, d, ds, rfl, r, hi, hq⟩⟩) fun v s1 ⟨x, H1, I1, r1, w1, d, ds, hw1, rp, hi, hq⟩ => ?_
  subst hw1
  cases rp with
  | non => cases hi
  | bl x => cases hi
  | int i => cases hi
  | ins _ _ _ _ _ => cases hi
  | ref _ => cases hi
  | cls _ => cases hi
  | scr _ _ => cases hi
  | lst h n z r =>
    cases hi
    cases r1
    obtain ⟨its, rv, p, hz⟩ := I1.list (.of h)
    refine wpAny_pyIter_list p.isList ?_
    refine ⟨s1.heap.objs.size, [s1.heap.objs.size], _, _, w1.H, rfl, I1.kept (t' := s1.toks) fun b o e => Heap.get?_push_of_some _ e, turn_list _ _, ⟨_, Heap.get?_push_size _ rfl, rfl, rfl⟩, fun b hb => ?_, hq _ (by rw [← r.length]; exact hz) (hK ▸ yields_list h n z r)⟩
    have e : b = s1.heap.objs.size := by simpa using hb
    subst e
    exact I1.fpOk (Nat.le_refl _) (I1.hok.fresh (Nat.le_refl _))
  | tup h r =>
    cases hi
    cases r1
    obtain ⟨its, rv, p, hz⟩ := I1.tuple (hK ▸ h.sq)
    refine wpAny_pyIter_tuple (show s1.heap.IsTuple _ its.toArray from p) ?_
    refine ⟨s1.heap.objs.size, [s1.heap.objs.size], _, _, w1.H, rfl, I1.kept (t' := s1.toks) fun b o e => Heap.get?_push_of_some _ e, turn_tuple _ _, ⟨_, Heap.get?_push_size _ rfl, rfl, rfl⟩, fun b hb => ?_, hq _ (by rw [← r.length]; exact hz) (hK ▸ yields_tup h r)⟩
    have e : b = s1.heap.objs.size := by simpa using hb
    subst e
    exact I1.fpOk (Nat.le_refl _) (I1.hok.fresh (Nat.le_refl _))
  | str cs =>
    have hi : (if cs.length ≤ 1000000 then some (cs.map fun c => D.str [c]) else none) = some ds := hi
    by_cases hcs : cs.length ≤ 1000000
    case neg => rw [if_neg hcs] at hi; cases hi
    rw [if_pos hcs] at hi
    cases hi
    have hzs : (cs.map fun c => D.str [c]).length ≤ sizeLine := by rw [List.length_map, sizeLine_eq]; omega
    obtain ⟨t, rfl⟩ := r1
    cases ha : (sof cs).cps.all (· < 128)
    · exact wpAny_pyIter_wide ha (pi_one (tk := s1.toks) I1 _ (turn_str _ _ t "str_iterator" (.inr rfl)) ⟨_, Heap.get?_push_size _ rfl, rfl, rfl⟩ (hq _ hzs (yields_str cs)))
    · exact wpAny_pyIter_ascii ha (pi_one (tk := s1.toks) I1 _ (turn_str _ _ t "str_ascii_iterator" (.inl rfl)) ⟨_, Heap.get?_push_size _ rfl, rfl, rfl⟩ (hq _ hzs (yields_str cs)))
  | dK h n k r =>
    cases hi
    cases r1
    have hzk : _ ≤ sizeLine := (I1.hok _ _ h).2.1
    obtain ⟨hs, hgd, hx, es, ep, vs, hdt, hsz, kv, hm⟩ := I1.frzK h
    refine iter_keys hs hgd hx hdt (pi_one (tk := s1.toks) I1 _ (turn_keys _ hdt) ⟨_, Heap.get?_push_size _ rfl, rfl, ?_⟩ (hq _ (by rw [← Paired.length k, List.length_map]; exact hzk) (yields_keys h n (.inr trivial) k)))
    rw [hsz] <;> rfl
/-- what later worlds of any statements keep, those of expressions keep -/
theorem PI.up (h : PI X tg e (tI R false it)) : PI X tg e (tI R b it) := by
  cases b with
  | false => exact h
  | true =>
    exact PImono h fun σ H Q ⟨w, Γ, M, T, hw, sr, o⟩ => ⟨w, Γ, M, T, hw, sr, o.imp fun d M1 w1 e1 b1 ⟨ds, hi, hq⟩ => ⟨ds, hi, fun J hz y => hq J hz fun w2 rel zk => y w2 (Ext.pres (show Ext w1 w2 from rel) b1) zk⟩⟩
/-- a list that a name owns (in a comprehension) -/
theorem i_own (hK : X.K = R.K) (he : PE X e (tE R true it)) : PI X tg e (tI R true (.app pOwnL (.cons it .nil))) := by
  refine ⟨fun pins s σ H Q I h => ?_⟩
  obtain ⟨w, Γ, M, T, hw, sr, o⟩ := h
  subst hw
  have o : OutR R σ Γ T w (bnd (bnd (ev it Γ M) fun d M => bnd (.ok [] M) fun ds M => .ok (d :: ds) M) pOwnL) _ := o
  have o' : OutR R σ Γ T w (bnd (ev it Γ M) fun x M => pOwnL [x] M) fun d _ w' => ∃ ds, items d = some ds ∧ ∀ J, ds.length ≤ sizeLine → Yields R true J w' ds → Q J w'.H := by
    revert o
    cases ev it Γ M <;> exact id
  refine thn (he.run pins s σ w.H (fun v H1 => ∃ w1 ds, w1.H = H1 ∧ Rp R.K R.ca w1 true v (.lst ds) ∧ ∀ J, ds.length ≤ sizeLine → Yields R true J w1 ds → Q J w1.H) I
    ⟨w, Γ, M, T, rfl, sr, o'.bnd.imp fun d M1 w1 e1 b1 o1 v r => ?_⟩) fun v s1 ⟨x, H1, I1, r1, w1, ds, hw1, rp, hq⟩ => ?_
  · obtain ⟨ds, rfl⟩ : ∃ ds, d = .lst ds := by
      cases d with
      | lst j => exact ⟨j, rfl⟩
      | _ => exact (show False from o1).elim
    obtain ⟨ds', hi, hq⟩ := OutR.here (a := D.lst ds) (M := M1) o1 b1
    cases hi
    exact ⟨w1, _, rfl, r, hq⟩
  · subst hw1
    cases rp with
    | lst h n z r =>
    cases r1
    obtain ⟨its, rv, p, hz⟩ := I1.list (.of h)
    refine wpAny_pyIter_list p.isList ?_
    refine ⟨s1.heap.objs.size, [s1.heap.objs.size], _, _, w1.H, rfl, I1.kept (t' := s1.toks) fun b o e => Heap.get?_push_of_some _ e, turn_list _ _, ⟨_, Heap.get?_push_size _ rfl, rfl, rfl⟩, fun b hb => ?_, hq _ (by rw [← r.length]; exact hz) (hK ▸ yields_list h n z r)⟩
    have e : b = s1.heap.objs.size := by simpa using hb
    subst e
    exact I1.fpOk (Nat.le_refl _) (I1.hok.fresh (Nat.le_refl _))
/-- range(n) -/
theorem i_range1 {a : Expr} {ia : Ex} {p pos : Pos} (hg : Gl X "range") (hm : X.mg "range" = none) (ha : PA X [a] (tA R true (.cons ia .nil))) (hs : noStar a = true) :
    PI X tg (.Call (.Name "range" p) [a] [] pos) (tI R false (.app pRange (.cons ia .nil))) :=
  PImono (pi_range1 hg hm ha (star_cons hs)) fun σ H Q ⟨w, Γ, M, T, hw, sr, o⟩ => by
    subst hw
    refine ⟨w, Γ, M, T, rfl, sr, (a1 o).imp fun ds M1 w1 e1 b1 ⟨x, hx, o1⟩ vs rs => ?_⟩
    subst hx
    obtain ⟨v, rfl, r1⟩ := rs.one
    obtain ⟨j, rfl⟩ : ∃ j, x = .int j := by
      cases x with
      | int j => exact ⟨j, rfl⟩
      | _ => exact (show False from o1).elim
    cases r1
    have o1 : OutR R σ Γ T w1 (if j.natAbs ≤ lim then Res.ok (D.lst (rangeL 0 j.toNat)) M1 else Res.stuck) _ := o1
    by_cases c : j.natAbs ≤ lim
    · rw [if_pos c] at o1
      obtain ⟨ds, hds, hq⟩ := o1.here b1
      cases hds
      refine ⟨j, rfl, ?_, ?_, hq _ (by rw [rangeL_len, sizeLine_eq]; have := c; unfold lim at this; omega) yields_range⟩
      · unfold lim at c; omega
      · unfold lim at c; omega
    · rw [if_neg c] at o1
      exact o1.elim
/-- range(n, m) -/
theorem i_range2 {a c : Expr} {ia ic : Ex} {p pos : Pos} (hg : Gl X "range") (hm : X.mg "range" = none) (ha : PA X [a, c] (tA R true (.cons ia (.cons ic .nil)))) (hs : noStar a = true) (hs2 : noStar c = true) :
    PI X tg (.Call (.Name "range" p) [a, c] [] pos) (tI R false (.app pRange (.cons ia (.cons ic .nil)))) :=
  PImono (pi_range2 hg hm ha (by rw [star_cons hs, star_cons hs2]; rfl) (by rw [star_cons hs2]; rfl)) fun σ H Q ⟨w, Γ, M, T, hw, sr, o⟩ => by
    subst hw
    refine ⟨w, Γ, M, T, rfl, sr, (a2 o).imp fun ds M1 w1 e1 b1 ⟨x, y, hx, o1⟩ vs rs => ?_⟩
    subst hx
    obtain ⟨v, u, rfl, r1, r2⟩ := rs.two
    obtain ⟨i, rfl⟩ : ∃ j, x = .int j := by
      cases x with
      | int j => exact ⟨j, rfl⟩
      | _ => exact (show False from o1).elim
    obtain ⟨j, rfl⟩ : ∃ j, y = .int j := by
      cases y with
      | int j => exact ⟨j, rfl⟩
      | _ => exact (show False from o1).elim
    cases r1
    cases r2
    have o1 : OutR R σ Γ T w1 (if i.natAbs ≤ lim ∧ j.natAbs ≤ lim ∧ (j - i).toNat ≤ lim then Res.ok (D.lst (rangeL i (j - i).toNat)) M1 else Res.stuck) _ := o1
    by_cases c : i.natAbs ≤ lim ∧ j.natAbs ≤ lim ∧ (j - i).toNat ≤ lim
    · rw [if_pos c] at o1
      obtain ⟨ds, hds, hq⟩ := o1.here b1
      cases hds
      obtain ⟨c1, c2, c5⟩ := c
      unfold lim at c1 c2 c5
      exact ⟨i, j, rfl, ⟨by omega, by omega, by omega, by omega⟩, hq _ (by rw [rangeL_len, sizeLine_eq]; omega) yields_range⟩
    · rw [if_neg c] at o1
      exact o1.elim
end

/-! ### targets of loops -/
def tgSlots : Tg → List Nat
  | .n i => [i]
  | .t is => is
def gT (R : Rd0) (tg : Tg) : TG := fun v σ H Q => ∃ w Γ M T d Γ', w.H = H ∧ Bears R w σ Γ M T ∧ Rp R.K R.ca w false v d ∧ asgTg tg d Γ = some Γ' ∧
  ∀ σ', Bears R w σ' Γ' M T → (∀ vs : List Nat, (∀ i ∈ tgSlots tg, i ∈ vs) → wipe σ' vs = wipe σ vs) → Q σ' H
theorem wipe_set {σ : L2.St} {i : Nat} {a : Option V} : ∀ {vs : List Nat}, i ∈ vs → wipe (σ.set i a) vs = wipe σ vs
  | v :: vs, h => by
    show (wipe (σ.set i a) vs).set v none = (wipe σ vs).set v none
    by_cases e : i ∈ vs
    · rw [wipe_set e]
    · have e2 : i = v := (List.mem_cons.mp h).resolve_right e
      subst e2
      have : ∀ (us : List Nat), i ∉ us → wipe (σ.set i a) us = (wipe σ us).set i a := by
        intro us
        induction us with
        | nil => intro _; rfl
        | cons u us ih =>
          intro hu
          show (wipe (σ.set i a) us).set u none = ((wipe σ us).set u none).set i a
          rw [ih (fun x => hu (List.mem_cons_of_mem _ x)), List.set_comm _ _ (fun x => hu (by rw [x]; exact List.mem_cons_self))]
      rw [this vs e, List.set_set]
section
variable {X : Cx} {R : Rd0} {x : Str} {i : Nat} {pos : Pos}
theorem PGmono {tg : Expr} {t t' : TG} (h : PG X tg t) (i : ∀ v σ H Q, t' v σ H Q → t v σ H Q) : PG X tg t' := ⟨fun pins s σ H v u Q I r q => h.run pins s σ H v u Q I r (i v σ H Q q)⟩
theorem g_name (hN : X.N.Nodup) (hi : X.N[i]? = some x) (hx : Loc X.env.scope x) (hf : X.fn x = true ∨ X.env.scope.names.lookup x = some .local) : PG X (.Name x pos) (gT R (.n i)) :=
  PGmono (pg_name hN hi hx hf) fun v σ H Q ⟨w, Γ, M, T, d, Γ', hw, b, r, ha, k⟩ => by
    subst hw
    cases ha
    exact k _ (b.setN i r) fun vs h => wipe_set (h i List.mem_cons_self)

/-- names one after another -/
def gNs : List Nat → TGs
  | [] => gNil
  | i :: is => gCons (gName i) (gNs is)
def tgNames (X : Cx) : List Expr → List Nat → Prop
  | [], [] => True
  | .Name x _ :: es, i :: is => X.N[i]? = some x ∧ Loc X.env.scope x ∧ (X.fn x = true ∨ X.env.scope.names.lookup x = some .local) ∧ tgNames X es is
  | _, _ => False
theorem gs_names (hN : X.N.Nodup) : ∀ {es : List Expr} {is : List Nat}, tgNames X es is → PGs X es (gNs is)
  | [], [], _ => pgs_nil
  | .Name x p :: es, i :: is, h => by
    obtain ⟨h1, h2, h3, h4⟩ := h
    exact pgs_cons (pg_name hN h1 h2 h3) (gs_names hN h4) rfl
theorem gNs_ok {w : Wd} {M : Mem} {T : List Addr} : ∀ (is : List Nat) {vs : List V} {ds : List D} {σ : L2.St} {Γ Γ' : Env} {Q : L2.St → Hp → Prop}, RpAll R.K R.ca w vs ds → Bears R w σ Γ M T → setNs Γ is ds = some Γ' →
    (∀ σ', Bears R w σ' Γ' M T → (∀ us : List Nat, (∀ i ∈ is, i ∈ us) → wipe σ' us = wipe σ us) → Q σ' w.H) → gNs is vs σ w.H Q
  | [], vs, ds, σ, Γ, Γ', Q, r, b, h, k => by
    cases r with
    | nil => cases h; exact ⟨rfl, k σ b fun _ _ => rfl⟩
    | cons _ _ => cases h
  | i :: is, vs, ds, σ, Γ, Γ', Q, r, b, h, k => by
    cases r with
    | nil => cases h
    | cons r1 rr =>
      refine ⟨_, _, rfl, gNs_ok is rr (b.setN i r1) h fun σ' b' hw => k σ' b' fun us hu => ?_⟩
      rw [hw us (fun j hj => hu j (List.mem_cons_of_mem _ hj)), wipe_set (hu i List.mem_cons_self)]
theorem names_len (hN : True) : ∀ {es : List Expr} {is : List Nat}, tgNames X es is → (assignEach es X.env).length = is.length ∧ (assignEach es X.env).findIdx? (·.1) = none
  | [], [], _ => ⟨rfl, rfl⟩
  | .Name x p :: es, i :: is, h => by
    obtain ⟨q1, q2⟩ := names_len hN h.2.2.2
    refine ⟨by show (assignEach es X.env).length + 1 = is.length + 1; rw [q1], ?_⟩
    show List.findIdx? (·.1) ((false, assign (.Name x p) X.env) :: assignEach es X.env) = none
    rw [List.findIdx?_cons]
    simp [q2]
theorem g_tup {es : List Expr} {k : Nat} {is : List Nat} (hK : X.K = R.K) (hc : X.calm = true) (hN : X.N.Nodup) (h : tgNames X es is) : PG X (.Tuple es k pos) (gT R (.t is)) :=
  PGmono (pg_tup (n := is.length) hc (gs_names hN h) (names_len trivial h).1 (names_len trivial h).2) fun v σ H Q ⟨w, Γ, M, T, d, Γ', hw, b, r, ha, k⟩ => by
    subst hw
    obtain ⟨ds, rfl⟩ : ∃ ds, d = .tup ds := by
      cases d with
      | tup j => exact ⟨j, rfl⟩
      | _ => cases ha
    cases r with
    | tup h ra =>
    refine ⟨_, _, rfl, hK ▸ h.sq, ?_, gNs_ok is ra b ha k⟩
    have : ∀ (is : List Nat) (ds : List D) (Γ Γ' : Env), setNs Γ is ds = some Γ' → ds.length = is.length := by
      intro is
      induction is with
      | nil => intro ds Γ Γ' h; cases ds <;> first | rfl | cases h
      | cons i is ih => intro ds Γ Γ' h; cases ds with
        | nil => cases h
        | cons d ds => show ds.length + 1 = is.length + 1; rw [ih ds _ _ h]
    rw [ra.length, this is ds Γ Γ' ha]
end
end Pk

set_option Elab.async false
set_option linter.all false
set_option autoImplicit false
set_option maxRecDepth 100000
set_option maxHeartbeats 1000000
/-! Sound6: for; a def by its body. -/
namespace Pk
open PySem PySem.Spec PyProof.Rows L2

section
variable {X : Cx} {R : Rd0} {tg e : Expr} {body : List Stmt} {pos : Pos} {it : Ex} {ms : Sms} {tg' : Tg}
/-- a turn of a loop -/
def turnL (tg : Tg) (b : Sms) (x : D) (Γ : Env) (M : Mem) : RS := match asgTg tg x Γ with
  | none => .stuck
  | some Γ => evSs b Γ M
theorem s_for (hp : PassesOwn (model X.prog X.w) X.A X.env X.xe) (hc : X.calm = true) (hi : PI X tg e (tI R false it)) (hg : PG X tg (gT R tg')) (hb : PSs X body (tMs R ms))
    (hs : ∀ x, foldedSetIterable e X.env x = pure x := by intro _; rfl) : PS X (.For tg e body [] pos) (tM R (.for_ tg' it ms)) :=
  PSmono (ps_for hp hc hi hg hb hs) fun D σ H ⟨w, Γ, M, hw, b, o⟩ => by
    subst hw
    have o : OutS R w (Pk.vS (ev it Γ M) Γ fun d M => match items d with
      | none => .stuck
      | some ds => forL (turnL tg' ms) ds Γ M) D := o
    refine ⟨w, Γ, M, [], rfl, b, (OutS.vS b o).imp fun d M1 w1 e1 b1 o1 => ?_⟩
    cases hi : items d with
    | none => rw [hi] at o1; exact o1.elim
    | some ds =>
      rw [hi] at o1
      have o1 : OutS R w1 (forL (turnL tg' ms) ds Γ M1) D := o1
      refine ⟨ds, rfl, fun J _ y => ⟨fun i m σ' H' => ∃ w' Γ' M', w'.H = H' ∧ Pres w1 w' ∧ Bears R w' σ' Γ' M' [] ∧ i + m = ds.length ∧ OutS R w' (forL (turnL tg' ms) (ds.drop i) Γ' M') D, ⟨ds.length, w1, Γ, M1, rfl, .refl _, b1, by omega, by simpa using o1⟩, ?_⟩⟩
      rintro i m σ' H' ⟨w', Γ', M', rfl, p', b', hm, o'⟩
      obtain ⟨y1, y2⟩ := y w' p' b'.zok
      by_cases hl : i = ds.length
      · subst hl
        refine .inl ⟨y1, ?_⟩
        rw [List.drop_length] at o'
        exact (show ∀ σ2 w2, Pres w' w2 → Bears R w2 σ2 Γ' M' [] → D.nx σ2 w2.H from o') σ' w' (.refl w') b'
      · have hlt : i < ds.length := by omega
        have hd : ds[i]? = some ds[i] := List.getElem?_eq_getElem hlt
        rw [List.drop_eq_getElem_cons hlt] at o'
        obtain ⟨go, yl⟩ := y2 i ds[i] hd
        refine .inr ⟨go, fun σ2 H2 => ∃ w' Γ' M', w'.H = H2 ∧ Pres w1 w' ∧ Bears R w' σ2 Γ' M' [] ∧ i + 1 + (m - 1) = ds.length ∧ OutS R w' (forL (turnL tg' ms) (ds.drop (i + 1)) Γ' M') D, fun σ2 H2 h => ⟨m - 1, by omega, h⟩, fun x H3 hy => ?_⟩
        obtain ⟨w3, rfl, hw3, rx⟩ := yl x H3 hy
        have b3 : Bears R w3 σ' Γ' M' [] := by
          rcases hw3 with rfl | ⟨p, ob, hp, rfl⟩
          · exact b'
          · exact b'.at hp
        have p3 : Pres w' w3 := by
          rcases hw3 with rfl | ⟨p, ob, hp, rfl⟩
          · exact .refl _
          · exact Ext.pres (Ext.at hp) b'
        have o' : OutS R w' (match turnL tg' ms ds[i] Γ' M' with
          | .next Γ M => forL (turnL tg' ms) (ds.drop (i + 1)) Γ M
          | .cont Γ M => forL (turnL tg' ms) (ds.drop (i + 1)) Γ M
          | .brk Γ M => .next Γ M
          | r => r) D := o'
        cases ha : asgTg tg' ds[i] Γ' with
        | none =>
          have e0 : turnL tg' ms ds[i] Γ' M' = .stuck := by unfold turnL; rw [ha]
          rw [e0] at o'
          exact o'.elim
        | some Γ2 =>
          have e0 : turnL tg' ms ds[i] Γ' M' = evSs ms Γ2 M' := by unfold turnL; rw [ha]
          rw [e0] at o'
          refine ⟨w3, Γ', M', [], ds[i], Γ2, rfl, b3, rx, ha, fun σ4 b4 _ => ⟨w3, Γ2, M', rfl, b4, ?_⟩⟩
          revert o'
          cases evSs ms Γ2 M' with
          | next Γ5 M5 => exact fun o' σ5 w5 p5 b5 => ⟨w5, Γ5, M5, rfl, (p'.trans p3).trans p5, b5, by omega, OutS.fwd (r := forL (turnL tg' ms) (ds.drop (i + 1)) Γ5 M5) o' (p3.trans p5)⟩
          | cont Γ5 M5 => exact fun o' σ5 w5 p5 b5 => ⟨w5, Γ5, M5, rfl, (p'.trans p3).trans p5, b5, by omega, OutS.fwd (r := forL (turnL tg' ms) (ds.drop (i + 1)) Γ5 M5) o' (p3.trans p5)⟩
          | brk Γ5 M5 => exact fun o' σ5 w5 p5 b5 => o' σ5 w5 (p3.trans p5) b5
          | ret d5 M5 => exact id
          | err e5 Γ5 M5 => exact fun o' σ5 cls dx w5 p5 b5 h => o' σ5 cls dx w5 (p3.trans p5) b5 h
          | stuck => exact id
end

/-! ### a def by its body -/
/-- 04's fn_of, for a context without guards -/
theorem fnG_of {P : Program} {w : World} {K : PySem.W.Frag} {mg : Str → Option Value} {base : Heap} {k : Nat} {f : Addr} {name qual : Str} {params : Arguments} {body : List Stmt} {scope : Scope} {dV kV doc pm cdv ct oc : Value} {an od : Option Addr}
    {osl : Array (Option Value)} {N ps : List Str} {sp : Sp} (lk : K.lookup f = some ⟨oc, od, .func (PySem.W.fnOf name qual params body scope dV kV doc pm an cdv ct), osl⟩) (hcd : PySem.W.codeIn K cdv qual = true) (S : FnScope N ps scope)
    (len : ∀ vs H Q E, sp vs H Q E → vs.length = ps.length)
    (hbody : ∀ (A : Around) (outer : List PySem.Env) (s : Shared) (H : Hp) (vs : List V) (Q : VK) (E : XK), Room k (A.deeper (envOfC qual scope s.heap.objs.size f cdv)) → A.guards = some [] → sp vs H Q E →
      ∃ t, PSs (cxOf (L2.CX P w) P w K mg base N qual scope f cdv A outer s H E) body t ∧ t { nx := fun _ H' => Q .non H', rt := Q } (L2.start N vs) H) :
    FnG P w K mg base (k + 1) f (PySem.W.fnOf name qual params body scope dV kV doc pm an cdv ct) ps sp := by
  refine ⟨len, fun A outer s H args us vs Q E hr hg e0 hb r hsp => ?_⟩
  have hl := len _ _ _ _ hsp
  have KX : K.In s.heap := e0.mod.kin.keeps fun b o e => (e0.bs b o e).1
  have lim : s.heap.NoLimit := e0.mod.nolimit.keeps fun b o e => (e0.bs b o e).1
  have hkind : ∀ y ∈ ps.zip us, scope.names.lookup y.1 = some .local ∨ (scope.names.lookup y.1 = some .cell ∧ ((cellsFrom (s.heap.objs.size + 1) scope.names []).lookup y.1).isSome = true) := fun ⟨n, v⟩ hy => by
    rcases S.par n (List.of_mem_zip hy).1 with q | q
    · exact .inl q
    · exact .inr ⟨q, PySem.W.cellsFrom_some _ _ _ (.inl q)⟩
  refine codeAny_call_function hr.depth (KX _ _ lk) rfl S.co S.gen rfl (PySem.W.codeRec_of KX hcd) (hb _ _ _ _ ?_)
  refine wpAny_newFunctionEnv_cells S.kind hkind fun env he s1 x => ?_
  subst he
  refine ⟨lim.keeps x.toInCall.keep, codeAny_func ?_⟩
  obtain ⟨t, ht, hq⟩ := hbody A outer s H vs Q E (hr.deeper _) hg hsp
  have I : Inv (cxOf (L2.CX P w) P w K mg base N qual scope f cdv A outer s H E) [] (L2.start N vs) H s1 := inv_start S hr.hd e0 hl r x
  refine wpAny_mono (ht.run [] s1 (L2.start N vs) H _ I hq) (fun fl s' hs => ?_) fun e s' hs => hs
  have fin : ∀ {σ' : L2.St} {H' : Hp} {v : V} {u : Value}, Inv (cxOf (L2.CX P w) P w K mg base N qual scope f cdv A outer s H E) [] σ' H' s' → RelV v u → Q v H' → CE outer P w H s Q u s' :=
    fun {σ' H' v u} J rv q => ⟨v, H', J.os, J.bare, J.base, J.hok, rv, q⟩
  cases fl with
  | ret u =>
    obtain ⟨v, σ', H', J, rv, q⟩ := hs
    exact fin J rv q
  | next =>
    obtain ⟨σ', H', J, q⟩ := hs
    exact fin (v := V.non) (u := Value.none) J rfl q
  | brk =>
    obtain ⟨_, _, _, q⟩ := hs
    exact False.elim q
  | cont =>
    obtain ⟨_, _, _, q⟩ := hs
    exact False.elim q

/-- the text around an expression: slots' names, scope, names that are the block's own cells, slots that may own, whether statements may stand here -/
structure Sx where
  N : List Str
  sc : Scope
  own : Str → Bool
  mu : List Nat
  st : Bool
/-- what a text has for its context -/
structure Bd (S : Sx) (k : Nat) (ca : String → Addr) (X : Cx) (R : Rd0) : Prop where
  nN : X.N = S.N
  nd : S.N.Nodup
  nsc : X.env.scope = S.sc
  calm : X.calm = true
  room : Room k X.A
  grd : X.A.guards = some []
  tk : Takes X R.W
  ps : S.st = true → PassesOwn (model X.prog X.w) X.A X.env X.xe
  fn : ∀ x, S.own x = true → X.fn x = true
  bk : S.st = true → X.env.blockKind = .function
  RK : R.K = X.K
  Rca : R.ca = ca
  Rmu : R.mu = S.mu
  stk : S.st = true → X.stack = X.env :: X.outer ∧ X.env.frame = some X.env.locals
/-- a def's body -/
def Sx.ofDef (N : List Str) (sc : Scope) (mu : List Nat) : Sx := ⟨N, sc, fun _ => true, mu, true⟩

theorem start_bears {R : Rd0} {N : List Str} {n : Nat} {vs : List V} {ds : List D} {M : Mem} (hn : N.length = n) (r : RpAll R.K R.ca R.w0 vs ds) (m : MemOk R.K R.ca R.w0 M) (z : ∀ a, R.w0.Z a → R.w0.H a ≠ none) :
    Bears R R.w0 (L2.start N vs) (start0 n ds) M [] := by
  have noOwn : ∀ (i : Nat) (d : D), (start0 n ds)[i]? = some (Slot.own d) → False := fun i d h => by
    unfold start0 at h
    by_cases c : i < (ds.map Slot.val).length
    · rw [List.getElem?_append_left c, List.getElem?_map] at h
      cases q : ds[i]? <;> rw [q] at h <;> cases h
    · rw [List.getElem?_append_right (by omega), List.getElem?_replicate] at h
      split at h <;> cases h
  refine ⟨.refl _, z, z, ?_, fun i d h => ?_, fun i d h => (noOwn i d h).elim, fun i d h => (noOwn i d h).elim, fun i j d e p h => (noOwn i d h).elim, fun _ h => (nomatch h), List.nodup_nil, m⟩
  · have := r.length
    simp only [L2.start, start0, List.length_append, List.length_map, List.length_replicate, hn]
    omega
  · unfold start0 at h
    by_cases c : i < (ds.map Slot.val).length
    · rw [List.getElem?_append_left c, List.getElem?_map] at h
      cases q : ds[i]? with
      | none => rw [q] at h; cases h
      | some d' =>
        rw [q] at h
        cases h
        obtain ⟨v, h1, h2⟩ := r.get q
        refine ⟨v, ?_, h2⟩
        have hi : i < vs.length := (List.getElem?_eq_some_iff.mp h1).1
        unfold L2.start
        rw [List.getElem?_append_left (by simpa using hi), List.getElem?_map, h1]
        rfl
    · rw [List.getElem?_append_right (by omega), List.getElem?_replicate] at h
      split at h <;> cases h

/-- a def as the top has written it, with the defaults dV -/
structure FunD (K : PySem.W.Frag) (x qual : Str) (st : Stmt) (dV : Value) (f : Addr) (fd : FuncData) : Prop where
  ex : ∃ (oc : Value) (od : Option Addr) (kV doc pm : Value) (an : Option Addr) (cdv ct : Value) (osl : Array (Option Value)),
    fd = PySem.W.fnOf x qual (defArgs st) (defBody st) (defScope st) dV kV doc pm an cdv ct ∧ K.lookup f = some ⟨oc, od, .func fd, osl⟩ ∧ PySem.W.codeIn K cdv qual = true
theorem funD_mk {K : PySem.W.Frag} {x qual : Str} {st : Stmt} {dV : Value} {f : Addr} {oc : Value} {od an : Option Addr} {osl : Array (Option Value)} {kV doc pm cdv ct : Value} (l : K.lookup f = some ⟨oc, od, .func (PySem.W.fnOf x qual (defArgs st) (defBody st) (defScope st) dV kV doc pm an cdv ct), osl⟩)
    (c : PySem.W.codeIn K cdv qual = true) : FunD K x qual st dV f (PySem.W.fnOf x qual (defArgs st) (defBody st) (defScope st) dV kV doc pm an cdv ct) := ⟨⟨oc, od, kV, doc, pm, an, cdv, ct, osl, rfl, l, c⟩⟩
/-- THE RULE: a def computes what IR says -/
theorem fn_okD {P : Program} {w : World} {K : PySem.W.Frag} {mg : Str → Option Value} {base : Heap} {x qual : Str} {st : Stmt} {dV : Value} {f : Addr} {fd : FuncData} {N ps : List Str} {k n : Nat} {ca : String → Addr} {ir : Sms}
    (F : FunD K x qual st dV f fd) (S : FnScope N ps (defScope st)) (hn : N.length = n) (mu : List Nat)
    (h : ∀ (X : Cx) (R : Rd0), X.prog = P → X.w = w → X.K = K → X.mg = mg → X.base = base → Bd (Sx.ofDef N (defScope st) mu) k ca X R → PSs X (defBody st) (tMs R ir)) :
    FnG P w K mg base (k + 1) f fd ps (spF K ca (fnSem ps.length n ir) ps.length) := by
  obtain ⟨oc, od, kV, doc, pm, an, cdv, ct, osl, rfl, lk, hcd⟩ := F.ex
  refine fnG_of lk hcd S (fun vs H Q E q => q.1) fun A outer s H vs Q E hr hg ⟨hl, w0, ds, M, hw, rp, mem, z, sp⟩ => ?_
  subst hw
  refine ⟨_, h (cxOf (L2.CX P w) P w K mg base N qual (defScope st) f cdv A outer s w0.H E) ⟨K, ca, w0, mu, fun cls dx _ H => E cls dx H⟩ rfl rfl rfl rfl rfl ⟨rfl, S.nd, rfl, rfl, hr, hg, takes_of rfl rfl rfl rfl, fun _ => passes_of rfl, fun _ _ => rfl, fun _ => (by show (if (defScope st).kind.isAnnotationScope then ScopeKind.function else (defScope st).kind) = ScopeKind.function; rw [S.kind]; rfl), rfl, rfl, rfl, fun _ => ⟨rfl, rfl⟩⟩, ?_⟩
  refine ⟨w0, start0 n ds, M, rfl, start_bears hn rp mem z, ?_⟩
  have hd : ds.length = ps.length := by rw [← rp.length, hl]
  unfold fnSem at sp
  rw [if_pos hd] at sp
  revert sp
  cases evSs ir (start0 n ds) M with
  | next Γ M' => exact fun sp σ' w' p b => sp .non w' b.ext b.mem b.zt .non
  | ret d M' => exact fun sp v w' e m z r => sp v w' e m z r
  | brk Γ M' => exact fun sp => sp.elim
  | cont Γ M' => exact fun sp => sp.elim
  | err e Γ M' => exact fun sp σ' cls dx w' p b h => sp cls dx w' b.ext b.mem b.zt h
  | stuck => exact id
theorem fn_ok {P : Program} {w : World} {K : PySem.W.Frag} {mg : Str → Option Value} {base : Heap} {x qual : Str} {st : Stmt} {f : Addr} {fd : FuncData} {N ps : List Str} {k n : Nat} {ca : String → Addr} {ir : Sms}
    (F : L2.Fun K x qual st f fd) (S : FnScope N ps (defScope st)) (hn : N.length = n) (mu : List Nat)
    (h : ∀ (X : Cx) (R : Rd0), X.prog = P → X.w = w → X.K = K → X.mg = mg → X.base = base → Bd (Sx.ofDef N (defScope st) mu) k ca X R → PSs X (defBody st) (tMs R ir)) :
    FnG P w K mg base (k + 1) f fd ps (spF K ca (fnSem ps.length n ir) ps.length) := by
  obtain ⟨oc, od, kV, doc, pm, an, cdv, ct, osl, e, lk, hcd⟩ := F.ex
  exact fn_okD (dV := .none) ⟨⟨oc, od, kV, doc, pm, an, cdv, ct, osl, e, lk, hcd⟩⟩ S hn mu h
end Pk

set_option Elab.async false
set_option linter.all false
set_option autoImplicit false
set_option maxRecDepth 100000
set_option maxHeartbeats 1000000
/-! Sound7: names, constants, operators, and, or, not, tests, chains. -/
namespace Pk
open PySem PySem.Spec PyProof.Rows L2

section
variable {S : Sx} {k : Nat} {ca : String → Addr} {X : Cx} {R : Rd0} {i : Nat} {x : Str} {pos : Pos} {b : Bool}
/-! ### names -/
def visB (sc : Scope) (x : Str) : Bool := match sc.names.lookup x with
  | some .local => true
  | some .cell => true
  | some .free => true
  | _ => false
theorem vis_of {sc : Scope} (h : visB sc x = true) : Vis sc x := by
  unfold visB at h
  unfold Vis
  cases q : sc.names.lookup x with
  | none => rw [q] at h; cases h
  | some z => cases z <;> rw [q] at h <;> first | (cases h; done) | (first | exact .inl rfl | exact .inr (.inl rfl) | exact .inr (.inr rfl))
def okVar (S : Sx) (i : Nat) (x : Str) (b : Bool) : Bool := (S.N[i]? == some x) && visB S.sc x && (b || !S.mu.contains i) && !(x == ("__debug__" : Str)) && !(x == ("__classdict__" : Str))
theorem getS_at {Γ : Env} {i : Nat} {d : D} (h : getS Γ i = some d) : Γ[i]? = some (.val d) ∨ Γ[i]? = some (.own d) := by
  unfold getS slotAt at h
  rw [List.getD_eq_getElem?_getD] at h
  cases q : Γ[i]? with
  | none => rw [q] at h; cases h
  | some s =>
    rw [q] at h
    cases s with
    | no => cases h
    | val e => cases h; exact .inl rfl
    | own e => cases h; exact .inr rfl
/-- a name -/
theorem e_var (B : Bd S k ca X R) (i : Nat) (h : okVar S i x b = true) : PE X (.Name x pos) (tE R b (.var i)) := by
  unfold okVar at h
  simp only [Bool.and_eq_true, Bool.not_eq_true', beq_iff_eq] at h
  obtain ⟨⟨⟨⟨h1, h2⟩, h3⟩, h4⟩, h5⟩ := h
  refine PEmono (pe_var (i := i) (by rw [B.nN]; exact h1) (by rw [B.nsc]; exact vis_of h2) h4 h5) fun σ H Q ⟨w, Γ, M, T, hw, sr, o⟩ => ?_
  subst hw
  have o : OutR R σ Γ T w (match getS Γ i with
    | some d => .ok d M
    | none => .stuck) _ := o
  cases q : getS Γ i with
  | none => rw [q] at o; exact o.elim
  | some d =>
    rw [q] at o
    have o := OutR.here o sr
    rcases getS_at q with q | q
    · obtain ⟨v, e, r⟩ := sr.val i d q
      exact ⟨v, e, o v r.up⟩
    · obtain ⟨p, e, _, _, n, _, oc⟩ := sr.own i d q
      refine ⟨_, e, o _ ?_⟩
      cases b with
      | true => exact oc.rp n
      | false =>
        have := sr.mu i d q
        rw [B.Rmu] at this
        simp only [Bool.false_or, Bool.not_eq_true', List.contains_eq_mem, decide_eq_false_iff_not] at h3
        exact absurd this h3
/-- names of targets -/
def okTg (S : Sx) (i : Nat) (x : Str) : Bool := (S.N[i]? == some x) && (match S.sc.names.lookup x with
  | some .local => true
  | some .cell => S.own x
  | _ => false)
theorem tg_of (B : Bd S k ca X R) (h : okTg S i x = true) : X.N[i]? = some x ∧ L2.Loc X.env.scope x ∧ (X.fn x = true ∨ X.env.scope.names.lookup x = some .local) := by
  unfold okTg at h
  simp only [Bool.and_eq_true, beq_iff_eq] at h
  obtain ⟨h1, h2⟩ := h
  rw [B.nN, B.nsc]
  refine ⟨h1, ?_⟩
  unfold L2.Loc
  cases q : S.sc.names.lookup x with
  | none => rw [q] at h2; cases h2
  | some z =>
    rw [q] at h2
    cases z <;> first | (cases h2; done) | skip
    · exact ⟨.inl rfl, .inr rfl⟩
    · exact ⟨.inr rfl, .inl (B.fn x h2)⟩
def okGl (S : Sx) (x : Str) : Bool := (S.sc.names.lookup x == some .globalImplicit) && !(x == ("__debug__" : Str)) && !(x == ("__name__" : Str))
theorem gl_of (B : Bd S k ca X R) (h : okGl S x = true) : Gl X x ∧ (x == ("__debug__" : Str)) = false ∧ x ≠ "__name__" := by
  unfold okGl at h
  simp only [Bool.and_eq_true, Bool.not_eq_true', beq_iff_eq, beq_eq_false_iff_ne] at h
  refine ⟨?_, by simpa using h.1.2, by simpa using h.2⟩
  unfold Gl Env.kindOf
  rw [B.nsc]
  exact h.1.1
/-! ### constants -/
theorem e_int {i : Int} {n : Nat} : PE X (.Constant (.int i) n pos) (tE R b (.const (.int i))) := e_const pe_int fun _ => .int i
theorem e_bl {c : Bool} {n : Nat} : PE X (.Constant (.bool c) n pos) (tE R b (.const (.bl c))) := e_const pe_bl fun _ => .bl c
theorem e_non {n : Nat} : PE X (.Constant .none n pos) (tE R b (.const .non)) := e_const pe_non fun _ => .non
theorem e_str {n : Nat} {z : Str} (s : Cs) (h : z = sof s) : PE X (.Constant (.str z) n pos) (tE R b (.const (.str s))) := e_const pe_str fun _ => h ▸ .str s
/-- a module's value: a text, a number, the like -/
theorem e_glob {v : V} {u : Value} {d : D} (B : Bd S k ca X R) (h : okGl S x = true) (hm : X.mg x = some u) (r : RelV v u) (hr : ∀ w, Rp R.K R.ca w false v d) : PE X (.Name x pos) (tE R b (.const d)) :=
  e_const (pe_glob (gl_of B h).1 hm r (gl_of B h).2.1) hr
end

/-! ### operators -/
section
variable {X : Cx} {R : Rd0}
/-- an operator by what IR says -/
def OpPb (q : Bool) (X : Cx) (R : Rd0) (f : Value → Value → Sem Value) (F : Fn) : Prop :=
  ∀ (pins : List (Addr × Obj)) (s : Shared) (σ : L2.St) (Γ : Env) (M : Mem) (T : List Addr) (w : Wd) (x y : D) (vx vy : V) (u1 u2 : Value) (Q : VK), Inv X pins σ w.H s → Bears R w σ Γ M T → Rp R.K R.ca w q vx x → Rp R.K R.ca w q vy y → RelV vx u1 → RelV vy u2 →
    OutR R σ Γ T w (F [x, y] M) (fun d _ w' => ∀ v, Rp R.K R.ca w' false v d → Q v w'.H) → wpAny (model X.prog X.w) X.A (f u1 u2) (EP X pins σ Q) X.xe s
abbrev OpP (X : Cx) (R : Rd0) (f : Value → Value → Sem Value) (F : Fn) : Prop := OpPb true X R f F
theorem OpP.of {f : Value → Value → Sem Value} {r : R2} {F : Fn} (ho : OpR X f r) (hF : Prim2 R F r) : OpP X R f F := fun pins s σ Γ M T w x y vx vy u1 u2 Q I b rx ry q1 q2 o =>
  ho pins s σ w.H vx vy u1 u2 Q I q1 q2 (hF σ Γ M T w x y vx vy Q b rx ry o)
variable {a b c : Expr} {ia ib ic : Ex} {pos : Pos} {F G : Fn} {z q : Bool}
/-- both operands, then the operator -/
def tOpP (R : Rd0) (F : Fn) (ia ib : Ex) (σ : L2.St) (H : Hp) (Q : VK) : Prop := ∃ w Γ M T, w.H = H ∧ Bears R w σ Γ M T ∧ OutR R σ Γ T w (ev (.app F (.cons ia (.cons ib .nil))) Γ M) fun d _ w' => ∀ v, Rp R.K R.ca w' false v d → Q v w'.H
theorem bin_go {f : Value → Value → Sem Value} (ho : OpPb q X R f F) (ha : PE X a (tE R q ia)) (hb : PE X b (tE R q ib)) {pins : List (Addr × Obj)} {s : Shared} {σ : L2.St} {H : Hp} {Q : VK} {Q' : Value → Shared → Prop}
    (I : Inv X pins σ H s) (h : tOpP R F ia ib σ H Q) (hq : ∀ u s', EP X pins σ Q u s' → Q' u s') :
    wpAny (model X.prog X.w) X.A (eval a X.env) (fun v s₁ => wpAny (model X.prog X.w) X.A (eval b X.env) (fun u s₂ => wpAny (model X.prog X.w) X.A (f v u) Q' X.xe s₂) X.xe s₁) X.xe s := by
  obtain ⟨w, Γ, M, T, hw, sr, o⟩ := h
  subst hw
  have o : OutR R σ Γ T w (bnd (bnd (ev ia Γ M) fun d M => bnd (bnd (ev ib Γ M) fun d M => bnd (.ok [] M) fun ds M => .ok (d :: ds) M) fun ds M => .ok (d :: ds) M) F) _ := o
  have o' : OutR R σ Γ T w (bnd (ev ia Γ M) fun x M => bnd (ev ib Γ M) fun y M => F [x, y] M) fun d _ w' => ∀ v, Rp R.K R.ca w' false v d → Q v w'.H := by
    revert o
    cases ev ia Γ M with
    | ok x M1 => simp only [bnd_ok]; cases ev ib Γ M1 <;> exact id
    | err x M1 => exact id
    | stuck => exact id
  refine binT ha hb I (R := fun vx vy H2 => ∃ w2 M2 x y, w2.H = H2 ∧ Bears R w2 σ Γ M2 T ∧ Rp R.K R.ca w2 q vx x ∧ Rp R.K R.ca w2 q vy y ∧ OutR R σ Γ T w2 (F [x, y] M2) fun d _ w' => ∀ v, Rp R.K R.ca w' false v d → Q v w'.H) ?_ ?_
  · refine ⟨w, Γ, M, T, rfl, sr, o'.bnd.imp fun x M1 w1 e1 s1 o1 vx rx => ?_⟩
    exact ⟨w1, Γ, M1, T, rfl, s1, o1.bnd.imp fun y M2 w2 e2 s2 o2 vy ry => ⟨w2, M2, x, y, rfl, s2, rx.ext e2, ry, o2⟩⟩
  · rintro v u s2 vx vy H2 I2 r1 r2 ⟨w2, M2, x, y, rfl, s2', rx, ry, o2⟩
    exact thn (ho pins s2 σ Γ M2 T w2 x y vx vy v u Q I2 s2' rx ry r1 r2 o2) hq
theorem e_op {op : Operator} (ho : OpPb q X R (binaryOp op) F) (ha : PE X a (tE R q ia)) (hb : PE X b (tE R q ib)) : PE X (.BinOp a op b pos) (tE R z (.app F (.cons ia (.cons ib .nil)))) :=
  PE.up ⟨fun pins s σ H Q I h => wpAny_BinOp (bin_go ho ha hb I h fun _ _ h => h)⟩
theorem e_cmp {op : CmpOp} (ho : OpPb q X R (compareOp op) F) (ha : PE X a (tE R q ia)) (hb : PE X b (tE R q ib)) (hm : behindInMarks op b = false) : PE X (.Compare a [op] [b] pos) (tE R z (.app F (.cons ia (.cons ib .nil)))) :=
  PE.up ⟨fun pins s σ H Q I h => wpAny_Compare1 (bin_go ho ha hb I h fun _ _ h => h) hm⟩
/-- what a test reads -/
theorem test_of {e : Ex} {σ : L2.St} {Γ : Env} {M : Mem} {T : List Addr} {w : Wd} {Q : Bool → Hp → Prop} (o : OutR R σ Γ T w (bnd (ev e Γ M) asBool) fun t _ w' => Q t w'.H) :
    OutR R σ Γ T w (ev e Γ M) fun d _ w' => ∃ t, d = .bl t ∧ Q t w'.H := by
  revert o
  cases ev e Γ M with
  | ok d M1 =>
    intro o w' e' b'
    cases d with
    | bl t => exact ⟨t, rfl, o w' e' b'⟩
    | _ => exact (show False from o).elim
  | err x M1 => exact id
  | stuck => exact id
/-- e as a test where nothing is special -/
theorem t_val {e : Expr} {ie : Ex} (h : PE X e (tE R true ie)) (he : ∀ whole, isTrue e X.env whole = (do let v ← whole; standAt e.pos; holding [v] (truthy v)) := by intro _; rfl) : PT X e (tT R ie) :=
  PTmono (pt_val h he) fun σ H Q ⟨w, Γ, M, T, hw, sr, o⟩ => by
    subst hw
    refine ⟨w, Γ, M, T, rfl, sr, (test_of o).imp fun d M1 w1 e1 b1 ⟨t, ht, q⟩ v r => ?_⟩
    subst ht
    cases r
    exact ⟨t, rfl, q⟩
theorem t_cmp {op : CmpOp} (ho : OpPb q X R (compareOp op) F) (ha : PE X a (tE R q ia)) (hb : PE X b (tE R q ib)) (hm : behindInMarks op b = false) : PT X (.Compare a [op] [b] pos) (tT R (.app F (.cons ia (.cons ib .nil)))) := by
  refine ⟨fun pins s σ H Q I h => ?_⟩
  refine wpAny_isTrue_Compare1 (bin_go (Q := fun v H => ∃ t, v = .bl t ∧ Q t H) ho ha hb I ?_ fun u s' ⟨v, H', I', r, t, e, qq⟩ => ?_) hm
  · obtain ⟨w, Γ, M, T, hw, sr, o⟩ := h
    subst hw
    refine ⟨w, Γ, M, T, rfl, sr, (test_of o).imp fun d M1 w1 e1 b1 ⟨t, ht, q⟩ v r => ?_⟩
    subst ht
    cases r
    exact ⟨t, rfl, q⟩
  · subst e
    cases r
    exact wpAny_truthy_bool ⟨H', I', qq⟩

/-! ### and, or, not, if -/
variable {rest : List Expr}
theorem bool_bnd {α : Type} {d : D} {M : Mem} {σ : L2.St} {Γ : Env} {T : List Addr} {w : Wd} {f : Bool → Mem → Res α} {Q : α → Mem → Wd → Prop} (o : OutR R σ Γ T w (bnd (asBool d M) f) Q) : ∃ t, d = .bl t ∧ OutR R σ Γ T w (f t M) Q := by
  cases d with
  | bl t => exact ⟨t, rfl, o⟩
  | _ => exact (show False from o).elim
theorem e_and (ha : PE X a (tE R true ia)) (hb : PE X (.BoolOp .And (b :: rest) pos) (tE R z ib)) : PE X (.BoolOp .And (a :: b :: rest) pos) (tE R z (.andV ia ib)) :=
  PEmono (pe_and ha hb) fun σ H Q ⟨w, Γ, M, T, hw, sr, o⟩ => by
    subst hw
    have o : OutR R σ Γ T w (bnd (ev ia Γ M) fun d M => bnd (asBool d M) fun t M => if t then ev ib Γ M else .ok (.bl false) M) _ := o
    refine ⟨w, Γ, M, T, rfl, sr, o.bnd.imp fun d M1 w1 e1 b1 o1 v r => ?_⟩
    obtain ⟨t, rfl, o1⟩ := bool_bnd o1
    cases r
    refine ⟨t, rfl, ?_⟩
    cases t with
    | true => exact iteT ⟨w1, Γ, M1, T, rfl, b1, o1⟩
    | false => exact iteF (OutR.here (a := D.bl false) o1 b1 _ (.bl false))
theorem e_or (ha : PE X a (tE R true ia)) (hb : PE X (.BoolOp .Or (b :: rest) pos) (tE R z ib)) : PE X (.BoolOp .Or (a :: b :: rest) pos) (tE R z (.orV ia ib)) :=
  PEmono (pe_or ha hb) fun σ H Q ⟨w, Γ, M, T, hw, sr, o⟩ => by
    subst hw
    have o : OutR R σ Γ T w (bnd (ev ia Γ M) fun d M => bnd (asBool d M) fun t M => if t then .ok (.bl true) M else ev ib Γ M) _ := o
    refine ⟨w, Γ, M, T, rfl, sr, o.bnd.imp fun d M1 w1 e1 b1 o1 v r => ?_⟩
    obtain ⟨t, rfl, o1⟩ := bool_bnd o1
    cases r
    refine ⟨t, rfl, ?_⟩
    cases t with
    | true => exact iteT (OutR.here (a := D.bl true) o1 b1 _ (.bl true))
    | false => exact iteF ⟨w1, Γ, M1, T, rfl, b1, o1⟩
theorem e_not (ha : PE X a (tE R true ia)) : PE X (.UnaryOp .Not a pos) (tE R z (.notV ia)) :=
  PEmono (pe_not ha) fun σ H Q ⟨w, Γ, M, T, hw, sr, o⟩ => by
    subst hw
    have o : OutR R σ Γ T w (bnd (ev ia Γ M) fun d M => bnd (asBool d M) fun t M => Res.ok (D.bl (!t)) M) _ := o
    refine ⟨w, Γ, M, T, rfl, sr, o.bnd.imp fun d M1 w1 e1 b1 o1 v r => ?_⟩
    obtain ⟨t, rfl, o1⟩ := bool_bnd o1
    cases r
    exact ⟨t, rfl, OutR.here o1 b1 _ (.bl (!t))⟩
/-- as tests -/
theorem PWmono {e : Expr} {u u' : TT} (h : PW X e u) (i : ∀ σ H Q, u' σ H Q → u σ H Q) : PW X e u' := ⟨fun wh pins s σ H Q I q => h.run wh pins s σ H Q I (i σ H Q q)⟩
/-- two bools in a row -/
theorem and_test {σ : L2.St} {Γ : Env} {M : Mem} {T : List Addr} {w : Wd} {Q : Bool → Hp → Prop} (o : OutR R σ Γ T w (bnd (ev (.andV ia ib) Γ M) asBool) fun t _ w' => Q t w'.H) :
    OutR R σ Γ T w (bnd (ev ia Γ M) asBool) fun (t : Bool) M1 w1 => OutR R σ Γ T w1 (if t = true then bnd (ev ib Γ M1) asBool else .ok false M1) fun t _ w' => Q t w'.H := by
  have o : OutR R σ Γ T w (bnd (bnd (ev ia Γ M) fun d M => bnd (asBool d M) fun t M => if t then ev ib Γ M else .ok (.bl false) M) asBool) _ := o
  refine OutR.bnd (f := fun (t : Bool) M1 => if t = true then bnd (ev ib Γ M1) asBool else .ok false M1) ?_
  revert o
  cases ev ia Γ M with
  | ok d M1 =>
    simp only [bnd_ok]
    cases d with
    | bl t => cases t <;> exact id
    | _ => exact id
  | err x M1 => exact id
  | stuck => exact id
theorem or_test {σ : L2.St} {Γ : Env} {M : Mem} {T : List Addr} {w : Wd} {Q : Bool → Hp → Prop} (o : OutR R σ Γ T w (bnd (ev (.orV ia ib) Γ M) asBool) fun t _ w' => Q t w'.H) :
    OutR R σ Γ T w (bnd (ev ia Γ M) asBool) fun (t : Bool) M1 w1 => OutR R σ Γ T w1 (if t = true then .ok true M1 else bnd (ev ib Γ M1) asBool) fun t _ w' => Q t w'.H := by
  have o : OutR R σ Γ T w (bnd (bnd (ev ia Γ M) fun d M => bnd (asBool d M) fun t M => if t then .ok (.bl true) M else ev ib Γ M) asBool) _ := o
  refine OutR.bnd (f := fun (t : Bool) M1 => if t = true then .ok true M1 else bnd (ev ib Γ M1) asBool) ?_
  revert o
  cases ev ia Γ M with
  | ok d M1 =>
    simp only [bnd_ok]
    cases d with
    | bl t => cases t <;> exact id
    | _ => exact id
  | err x M1 => exact id
  | stuck => exact id
theorem w_and1 (ha : PT X a (tT R ia)) : PW X (.BoolOp .And [a] pos) (tT R ia) := pw_and1 ha
theorem w_or1 (ha : PT X a (tT R ia)) : PW X (.BoolOp .Or [a] pos) (tT R ia) := pw_or1 ha
theorem w_and (ha : PT X a (tT R ia)) (hb : PW X (.BoolOp .And (b :: rest) pos) (tT R ib)) : PW X (.BoolOp .And (a :: b :: rest) pos) (tT R (.andV ia ib)) :=
  PWmono (pw_and ha hb) fun σ H Q ⟨w, Γ, M, T, hw, sr, o⟩ => by
    subst hw
    refine ⟨w, Γ, M, T, rfl, sr, (and_test o).imp fun t M1 w1 e1 b1 o1 => ?_⟩
    cases t with
    | true => exact iteT ⟨w1, Γ, M1, T, rfl, b1, o1⟩
    | false => exact iteF (OutR.here (a := false) o1 b1)
theorem w_or (ha : PT X a (tT R ia)) (hb : PW X (.BoolOp .Or (b :: rest) pos) (tT R ib)) : PW X (.BoolOp .Or (a :: b :: rest) pos) (tT R (.orV ia ib)) :=
  PWmono (pw_or ha hb) fun σ H Q ⟨w, Γ, M, T, hw, sr, o⟩ => by
    subst hw
    refine ⟨w, Γ, M, T, rfl, sr, (or_test o).imp fun t M1 w1 e1 b1 o1 => ?_⟩
    cases t with
    | true => exact iteT (OutR.here (a := true) o1 b1)
    | false => exact iteF ⟨w1, Γ, M1, T, rfl, b1, o1⟩
theorem t_not (ha : PT X a (tT R ia)) : PT X (.UnaryOp .Not a pos) (tT R (.notV ia)) :=
  PTmono (pt_not ha) fun σ H Q ⟨w, Γ, M, T, hw, sr, o⟩ => by
    subst hw
    have o : OutR R σ Γ T w (bnd (bnd (ev ia Γ M) fun d M => bnd (asBool d M) fun t M => Res.ok (D.bl (!t)) M) asBool) _ := o
    have o' : OutR R σ Γ T w (bnd (bnd (ev ia Γ M) asBool) fun t M => .ok (!t) M) fun t _ w' => Q t w'.H := by
      revert o
      cases ev ia Γ M with
      | ok d M1 =>
        simp only [bnd_ok]
        cases d with
        | bl t => exact id
        | _ => exact id
      | err x M1 => exact id
      | stuck => exact id
    exact ⟨w, Γ, M, T, rfl, sr, o'.bnd.imp fun t M1 w1 e1 b1 o1 => OutR.here (a := !t) o1 b1⟩
theorem e_if (hc : PT X c (tT R ic)) (ha : PE X a (tE R z ia)) (hb : PE X b (tE R z ib)) : PE X (.IfExp c a b pos) (tE R z (.ite ic ia ib)) :=
  PEmono (pe_ifExp hc ha hb) fun σ H Q ⟨w, Γ, M, T, hw, sr, o⟩ => by
    subst hw
    have o : OutR R σ Γ T w (bnd (ev ic Γ M) fun d M => bnd (asBool d M) fun t M => if t then ev ia Γ M else ev ib Γ M) _ := o
    have o' : OutR R σ Γ T w (bnd (bnd (ev ic Γ M) asBool) fun t M => if t then ev ia Γ M else ev ib Γ M) fun d _ w' => ∀ v, Rp R.K R.ca w' z v d → Q v w'.H := by
      revert o
      cases ev ic Γ M <;> exact id
    refine ⟨w, Γ, M, T, rfl, sr, o'.bnd.imp fun t M1 w1 e1 b1 o1 => ?_⟩
    cases t with
    | true => exact iteT ⟨w1, Γ, M1, T, rfl, b1, o1⟩
    | false => exact iteF ⟨w1, Γ, M1, T, rfl, b1, o1⟩
end
end Pk

set_option Elab.async false
set_option linter.all false
set_option autoImplicit false
set_option maxRecDepth 100000
set_option maxHeartbeats 1000000
/-! Sound8: comprehensions; new lists. -/
namespace Pk
open PySem PySem.Spec PyProof.Rows L2

/-! ### slots forgotten -/
theorem wipe_at {vs : List Nat} : ∀ {σ : L2.St} {i : Nat}, (wipe σ vs)[i]? = if i ∈ vs then (σ[i]?).map (fun _ => none) else σ[i]? := by
  induction vs with
  | nil => intro σ i; simp [wipe]
  | cons v vs ih =>
    intro σ i
    show ((wipe σ vs).set v none)[i]? = _
    rw [List.getElem?_set]
    by_cases e : v = i
    · subst e
      rw [if_pos rfl, if_pos List.mem_cons_self, wipe_length]
      by_cases hl : v < σ.length
      · rw [if_pos hl, List.getElem?_eq_getElem hl]; rfl
      · rw [if_neg hl, List.getElem?_eq_none (by omega)]; rfl
    · rw [if_neg e, ih]
      have : (i ∈ v :: vs) ↔ i ∈ vs := by
        rw [List.mem_cons]
        exact ⟨fun h => h.resolve_left (fun x => e x.symm), .inr⟩
      simp [this]
theorem wipe_wipe {vs : List Nat} {σ : L2.St} : wipe (wipe σ vs) vs = wipe σ vs := by
  apply List.ext_getElem?
  intro i
  rw [wipe_at, wipe_at]
  by_cases h : i ∈ vs
  · rw [if_pos h, if_pos h]; cases σ[i]? <;> rfl
  · rw [if_neg h, if_neg h]
theorem wipeE_at {vs : List Nat} : ∀ {Γ : Env} {i : Nat} {s : Slot}, (wipeE Γ vs)[i]? = some s → s = .no ∨ (i ∉ vs ∧ Γ[i]? = some s) := by
  induction vs with
  | nil => intro Γ i s h; exact .inr ⟨by simp, h⟩
  | cons v vs ih =>
    intro Γ i s h
    have h : ((wipeE Γ vs).set v .no)[i]? = some s := h
    rcases set_at h with ⟨rfl, rfl⟩ | ⟨n, q⟩
    · exact .inl rfl
    · rcases ih q with q | ⟨q1, q2⟩
      · exact .inl q
      · exact .inr ⟨fun z => (List.mem_cons.mp z).elim (fun e => n e.symm) q1, q2⟩
theorem wipeE_length {vs : List Nat} {Γ : Env} : (wipeE Γ vs).length = Γ.length := by
  induction vs with
  | nil => rfl
  | cons v vs ih => show ((wipeE Γ vs).set v .no).length = _; rw [List.length_set, ih]

/-- no exception is let out -/
def Rd0.cold (R : Rd0) : Rd0 := { R with W := fun _ _ _ _ => False }
section
variable {R : Rd0} {w w' : Wd} {σ : L2.St} {Γ : Env} {M M' : Mem} {T : List Addr} {p : Addr} {vs : List Nat}
theorem Bears.cold (s : Bears R w σ Γ M T) : Bears R.cold w σ Γ M T := ⟨s.ext, s.zt0, s.zt, s.len, s.val, s.own, s.mu, s.apart, s.tmp, s.tnd, s.mem⟩
theorem Bears.wipe (s : Bears R w σ Γ M T) : Bears R w (L2.wipe σ vs) (wipeE Γ vs) M T := by
  have at_ : ∀ {i : Nat}, i ∉ vs → (L2.wipe σ vs)[i]? = σ[i]? := fun {i} h => by rw [wipe_at, if_neg h]
  refine ⟨s.ext, s.zt0, s.zt, by rw [wipe_length, wipeE_length, s.len], fun i d h => ?_, fun i d h => ?_, fun i d h => ?_, fun i j d e q h1 h2 h3 h4 => ?_, s.tmp, s.tnd, s.mem⟩
  · rcases wipeE_at h with h | ⟨n, h⟩
    · cases h
    · rw [at_ n]; exact s.val i d h
  · rcases wipeE_at h with h | ⟨n, h⟩
    · cases h
    · rw [at_ n]; exact s.own i d h
  · rcases wipeE_at h with h | ⟨n, h⟩
    · cases h
    · exact s.mu i d h
  · rcases wipeE_at h1 with h1 | ⟨n1, h1⟩
    · cases h1
    · rcases wipeE_at h2 with h2 | ⟨n2, h2⟩
      · cases h2
      · rw [at_ n1] at h3
        rw [at_ n2] at h4
        exact s.apart i j d e q h1 h2 h3 h4
/-- a temporary is forgotten -/
theorem Bears.pop (s : Bears R w σ Γ M (p :: T)) : Bears R w σ Γ M T :=
  ⟨s.ext, s.zt0, s.zt, s.len, s.val, fun i d h => by
    obtain ⟨q, h1, h2, h3, h4, h5, h6⟩ := s.own i d h
    exact ⟨q, h1, h2, h3, h4, fun z => h5 (List.mem_cons_of_mem _ z), h6⟩, s.mu, s.apart, fun a h => s.tmp a (List.mem_cons_of_mem _ h), (List.nodup_cons.mp s.tnd).2, s.mem⟩
theorem OwnC.wr {K : PySem.W.Frag} {ca : String → Addr} {o : HO} {q : Addr} {d : D} (n : q ≠ p) (hz : w.Z p) (hf : ∀ o u, w.H p ≠ some (.frz o u)) : OwnC K ca w q d → OwnC K ca (w.at p o) q d := by
  cases d <;> intro h <;> first | exact h.elim | skip
  case lst => obtain ⟨vs, h, r⟩ := h; exact ⟨vs, (upd_ne n).trans h, r.wr hz hf⟩
  case dict => obtain ⟨kvs, h, k, r⟩ := h; exact ⟨kvs, (upd_ne n).trans h, k, r.wr hz hf⟩
  case ins => obtain ⟨dx, fs, h, k, r⟩ := h; exact ⟨dx, fs, (upd_ne n).trans h, k, r.wr hz hf⟩
/-- a temporary is written -/
theorem Bears.write {o : HO} (s : Bears R w σ Γ M T) (hp : p ∈ T) (hf : ∀ o u, w.H p ≠ some (.frz o u)) : Bears R (w.at p o) σ Γ M T := by
  obtain ⟨hz, h0, nk⟩ := s.tmp p hp
  refine ⟨⟨s.ext.κ, s.ext.z, s.ext.z2, fun a u h n => ?_, fun a h => ?_⟩, s.zt0, fun a h => ?_, s.len, fun i d h => ?_, fun i d h => ?_, s.mu, s.apart, s.tmp, s.tnd, s.mem.len, s.mem.nd, s.mem.z, fun k c h => ?_⟩
  · have : a ≠ p := fun e => by rw [e, h0] at h; cases h
    exact (upd_ne this).trans (s.ext.keep a u h n)
  · show upd w.H p o a ≠ none
    unfold upd
    split
    · simp
    · exact s.ext.there a h
  · show upd w.H p o a ≠ none
    unfold upd
    split
    · simp
    · exact s.zt a h
  · obtain ⟨v, h1, h2⟩ := s.val i d h
    exact ⟨v, h1, h2.wr hz hf⟩
  · obtain ⟨q, h1, h2, h3, h4, h5, h6⟩ := s.own i d h
    exact ⟨q, h1, h2, h3, h4, h5, h6.wr (fun e => h5 (e ▸ hp)) hz hf⟩
  · obtain ⟨a, h1, h2⟩ := s.mem.at_ k c h
    have ne : a ≠ p := fun e => nk (e ▸ List.mem_of_getElem? h1)
    refine ⟨a, h1, ?_⟩
    cases c with
    | lst ds => obtain ⟨vs, x, r⟩ := h2; exact ⟨vs, (upd_ne ne).trans x, r.wr hz hf⟩
    | ins c ns ds => obtain ⟨dx, fs, x, k, r⟩ := h2; exact ⟨dx, fs, (upd_ne ne).trans x, k, r.wr hz hf⟩
/-- an address is protected no more -/
def Wd.free (w : Wd) (p : Addr) : Wd := { w with Z := fun a => w.Z a ∧ a ≠ p }
theorem Less.free (w : Wd) (p : Addr) : Less w (w.free p) := ⟨rfl, rfl, fun _ h => h.1⟩
theorem Bears.free (s : Bears R w σ Γ M (p :: T)) : Bears R (w.free p) σ Γ M T := by
  have l := Less.free w p
  obtain ⟨hz, h0, nk⟩ := s.tmp p List.mem_cons_self
  have nT : p ∉ T := (List.nodup_cons.mp s.tnd).1
  refine ⟨⟨s.ext.κ, fun a h => s.ext.z a h.1, fun a h => ⟨s.ext.z2 a h, fun e => s.zt0 a h (e ▸ h0)⟩, s.ext.keep, s.ext.there⟩, s.zt0, fun a h => s.zt a h.1, s.len, fun i d h => ?_, fun i d h => ?_, s.mu, s.apart, fun a h => ?_, (List.nodup_cons.mp s.tnd).2, s.mem.len, s.mem.nd, fun a h => ⟨s.mem.z a h, fun e => nk (e ▸ h)⟩, fun k c h => ?_⟩
  · obtain ⟨v, h1, h2⟩ := s.val i d h
    exact ⟨v, h1, h2.less l⟩
  · obtain ⟨q, h1, h2, h3, h4, h5, h6⟩ := s.own i d h
    refine ⟨q, h1, ⟨h2, fun e => h5 (e ▸ List.mem_cons_self)⟩, h3, h4, fun z => h5 (List.mem_cons_of_mem _ z), ?_⟩
    cases d <;> first | exact h6.elim | skip
    case lst => obtain ⟨vs, h, r⟩ := h6; exact ⟨vs, h, r.less l⟩
    case dict => obtain ⟨kvs, h, k, r⟩ := h6; exact ⟨kvs, h, k, r.less l⟩
    case ins => obtain ⟨dx, fs, h, k, r⟩ := h6; exact ⟨dx, fs, h, k, r.less l⟩
  · obtain ⟨h1, h2, h3⟩ := s.tmp a (List.mem_cons_of_mem _ h)
    exact ⟨⟨h1, fun e => nT (e ▸ h)⟩, h2, h3⟩
  · obtain ⟨a, h1, h2⟩ := s.mem.at_ k c h
    exact ⟨a, h1, h2.less l⟩
theorem Ext.freed (s : Bears R w σ Γ M T) (e : Ext w w') (h : w.H p = none) : Ext w (w'.free p) :=
  ⟨e.κ, fun a z => e.z a z.1, fun a z => ⟨e.z2 a z, fun q => s.zt a z (q ▸ h)⟩, e.keep, e.there⟩
end

section
variable {X : Cx} {R : Rd0} {e : Expr} {ir : Ex} {b : Bool}
/-- what is no dict -/
def notDict : D → Prop
  | .dict _ _ => False
  | _ => True
theorem new_red {σ : L2.St} {H : Hp} {Q : VK} (hd : ∀ Γ M d M', ev ir Γ M = .ok d M' → notDict d) (h : tE R false ir σ H Q) : tF R ir σ H Q := by
  obtain ⟨w, Γ, M, T, hw, sr, o⟩ := h
  subst hw
  refine ⟨w, Γ, M, T, rfl, sr, ?_⟩
  cases q : ev ir Γ M with
  | ok d M1 =>
    rw [q] at o
    intro w1 e1 b1 p hp b2 oc
    have nd : ∀ ks vs, d ≠ .dict ks vs := fun ks vs x => by
      have := hd Γ M d M1 q
      rw [x] at this
      exact this
    exact o (w1.free p) (Ext.freed sr e1 hp) b2.free (.ref p) (OwnC.less (Less.free w1 p) (b2.tmp p List.mem_cons_self).2.2 (fun z => z.2 rfl) nd oc)
  | err x M1 => rw [q] at o; exact o
  | stuck => rw [q] at o; exact o
/-- a new list as a value -/
theorem e_new (h : PE X e (tF R ir)) (hd : ∀ Γ M d M', ev ir Γ M = .ok d M' → notDict d) : PE X e (tE R b ir) := PE.up <| PEmono h fun σ H Q q => new_red hd q
end

/-! ### comprehensions -/
/-- a turn of a comprehension -/
def turnC (own : List Nat) (tg : Tg) (c el : Ex) (Γ : Env) (x : D) (M : Mem) : Res (List D) := match asgTg tg x (wipeE Γ own) with
  | none => .stuck
  | some Γ1 => bnd (ev c Γ1 M) fun b M => bnd (asBool b M) fun t M => if t then bnd (ev el Γ1 M) fun y M => .ok [y] M else .ok [] M
theorem bnd_okE {α β : Type} {x : Res α} {f : α → Mem → Res β} {b : β} {M : Mem} (h : bnd x f = .ok b M) : ∃ a M1, x = .ok a M1 ∧ f a M1 = .ok b M := by
  cases x with
  | ok a M1 => exact ⟨a, M1, rfl, h⟩
  | err e M1 => cases h
  | stuck => cases h
theorem noErr_okE {α : Type} {R : Rd0} {σ : L2.St} {Γ : Env} {T : List Addr} {w : Wd} {x : Res α} {Q : α → Mem → Wd → Prop} (o : OutR R σ Γ T w (noErr x) Q) : ∃ a M, x = .ok a M ∧ OutR R σ Γ T w (.ok a M) Q := by
  cases x with
  | ok a M1 => exact ⟨a, M1, rfl, o⟩
  | err e M1 => exact o.elim
  | stuck => exact o.elim
theorem turnC_ok {own : List Nat} {tg : Tg} {c el : Ex} {Γ : Env} {x : D} {M M2 : Mem} {ys : List D} (h : turnC own tg c el Γ x M = .ok ys M2) :
    ∃ Γ1 t M1, asgTg tg x (wipeE Γ own) = some Γ1 ∧ ev c Γ1 M = .ok (.bl t) M1 ∧ ((t = true ∧ ∃ y, ev el Γ1 M1 = .ok y M2 ∧ ys = [y]) ∨ (t = false ∧ ys = [] ∧ M2 = M1)) := by
  unfold turnC at h
  cases q : asgTg tg x (wipeE Γ own) with
  | none => rw [q] at h; cases h
  | some Γ1 =>
    rw [q] at h
    obtain ⟨d, M1, h1, h⟩ := bnd_okE h
    obtain ⟨t, M1', h2, h⟩ := bnd_okE h
    cases d with
    | bl u =>
      cases h2
      cases t with
      | true =>
        rw [if_pos rfl] at h
        obtain ⟨y, M3, h3, h⟩ := bnd_okE h
        cases h
        exact ⟨Γ1, true, _, rfl, h1, .inl ⟨rfl, y, h3, rfl⟩⟩
      | false =>
        rw [if_neg Bool.false_ne_true] at h
        cases h
        exact ⟨Γ1, false, _, rfl, h1, .inr ⟨rfl, rfl, rfl⟩⟩
    | _ => cases h2
theorem compL_cons {f : D → Mem → Res (List D)} {x : D} {xs zs : List D} {M Mf : Mem} (h : compL f (x :: xs) M = .ok zs Mf) : ∃ ys M2 zs2, f x M = .ok ys M2 ∧ compL f xs M2 = .ok zs2 Mf ∧ zs = ys ++ zs2 := by
  obtain ⟨ys, M2, h1, h⟩ := bnd_okE (show bnd (f x M) (fun ys M => bnd (compL f xs M) fun zs M => .ok (ys ++ zs) M) = .ok zs Mf from h)
  obtain ⟨zs2, M3, h2, h⟩ := bnd_okE h
  cases h
  exact ⟨ys, M2, zs2, h1, h2, rfl⟩

/-- the text of a block within -/
def Sx.blk (S : Sx) (scope : Scope) : Sx := { S with sc := relS scope S.sc, own := fun x => scope.names.lookup x == some .cell, st := false }
def blkB (S : Sx) (scope : Scope) (own : List (Str × Nat)) : Bool :=
  (scope.kind == .function) && scope.names.all (fun y => scope.names.lookup y.1 == some y.2) && own.all (fun p => S.N[p.2]? == some p.1) &&
  scope.names.all (fun y => !(y.2 == .free) || (S.sc.names.lookup y.1 == some .cell || S.sc.names.lookup y.1 == some .free)) &&
  scope.names.all (fun y => !(y.2 == .local || y.2 == .cell) || own.any (fun p => p.1 == y.1) || !S.N.contains y.1)
section
variable {S : Sx} {k : Nat} {ca : String → Addr} {X : Cx} {R : Rd0} {tg e el : Expr} {ifs : List Expr} {scope : Scope} {own : List (Str × Nat)} {pos : Pos} {it c iel : Ex} {tg' : Tg}
theorem blk_ok (B : Bd S k ca X R) (h : blkB S scope own = true) : BlkOk X.N X.env.scope scope own := by
  unfold blkB at h
  simp only [Bool.and_eq_true, beq_iff_eq, List.all_eq_true] at h
  obtain ⟨⟨⟨⟨h1, h2⟩, h3⟩, h4⟩, h5⟩ := h
  rw [B.nN, B.nsc]
  refine ⟨h1, fun y hy => h2 y hy, fun p hp => h3 p hp, fun y hy e => ?_, fun y hy e => ?_⟩
  · have := h4 y hy
    rw [e] at this
    simpa using this
  · have := h5 y hy
    have e0 : (y.2 == NameKind.local || y.2 == NameKind.cell) = true := by
      rcases e with e | e <;> rw [e] <;> rfl
    rw [e0] at this
    simp only [Bool.not_true, Bool.false_or, Bool.or_eq_true, List.any_eq_true, beq_iff_eq, Bool.not_eq_true', List.contains_eq_mem, decide_eq_false_iff_not] at this
    rcases this with ⟨p, hp, e⟩ | n
    · exact .inl (List.mem_map.mpr ⟨p, hp, e⟩)
    · exact .inr n
theorem Bd.blk (B : Bd S k ca X R) (scope : Scope) (s : Shared) (H : Hp) (C : Addr) (cl : List (Str × Addr)) (fp : List Addr) : Bd (S.blk scope) k ca (X.blk s H scope (compEnvC scope cl C X.env) fp) R.cold :=
  ⟨B.nN, B.nd, by show relS scope X.env.scope = relS scope S.sc; rw [B.nsc], B.calm, B.room, B.grd, fun u s' ⟨_, _, _, _, _, _, _, _, _, _, _, _, _, _, _, _, h⟩ => h.elim, fun h => (Bool.false_ne_true h).elim, fun x h => h, (fun h => (Bool.false_ne_true h).elim), B.RK, B.Rca, B.Rmu, fun h => (Bool.false_ne_true h).elim⟩
theorem pts0 : PTs X [] (tT R (.const (.bl true))) := ⟨fun pins s σ H Q I h => (pts_nil (X := X)).run pins s σ H Q I (by
  obtain ⟨w, Γ, M, T, hw, sr, o⟩ := h
  subst hw
  exact OutR.here (a := true) o sr)⟩
theorem pts1 {e : Expr} (h : PT X e (tT R c)) : PTs X [e] (tT R c) := pts_one h

theorem lc_red {vs : List Nat} (hsub : (tgSlots tg').all (fun i => vs.contains i) = true) : ∀ (σ : L2.St) (H : Hp) (Q : VK), tF R (.comp vs tg' it c iel) σ H Q → tLc (tI R true it) (gT R.cold tg') (tT R.cold c) (tE R.cold false iel) vs σ H Q := by
  rintro σ H Q ⟨w, Γ, M, T, hw, sr, o⟩
  subst hw
  have o : OutR R σ Γ T w (bnd (ev it Γ M) fun d M => match items d with
    | none => .stuck
    | some ds => noErr (bnd (compL (turnC vs tg' c iel Γ) ds M) fun ys M => Res.ok (D.lst ys) M)) _ := o
  refine ⟨w, Γ, M, T, rfl, sr, o.bnd.imp fun d M1 w1 e1 b1 o1 => ?_⟩
  cases hit : items d with
  | none => rw [hit] at o1; exact o1.elim
  | some ds =>
    rw [hit] at o1
    obtain ⟨d', Mf, hd', o1⟩ := noErr_okE o1
    obtain ⟨ys, M2, hc, e0⟩ := bnd_okE hd'
    cases e0
    refine ⟨ds, rfl, fun J hz y D hD => ⟨fun i m H' => ∃ w' M' zs acc accd, w'.H = H' ∧ Ext w1 w' ∧ Bears R w' σ Γ M' (D :: T) ∧ i + m = ds.length ∧ acc.length ≤ i ∧ w'.H D = some (.lst acc) ∧ RpAll R.K R.ca w' acc accd ∧
      compL (turnC vs tg' c iel Γ) (ds.drop i) M' = .ok zs Mf ∧ accd ++ zs = ys, ⟨ds.length, w1.own D (.lst []), M1, ys, [], [], rfl, Ext.own hD, b1.push hD, by omega, Nat.le_refl _, upd_same, .nil, by simpa using hc, rfl⟩, ?_⟩⟩
    rintro i m H' ⟨w', M', zs, acc, accd, rfl, e', b', hm, hal, hDl, ra, hcl, hys⟩
    obtain ⟨y1, y2⟩ := y w' e' b'.zok
    have nκ : D ∉ w'.κ := (b'.tmp D List.mem_cons_self).2.2
    by_cases hl : i = ds.length
    · subst hl
      refine .inl ⟨y1, ?_⟩
      rw [List.drop_length] at hcl
      cases hcl
      rw [List.append_nil] at hys
      subst hys
      exact o1 w' e' b'.pop D (e1.nn hD) b' ⟨acc, hDl, ra⟩
    · have hlt : i < ds.length := by omega
      have hd : ds[i]? = some ds[i] := List.getElem?_eq_getElem hlt
      rw [List.drop_eq_getElem_cons hlt] at hcl
      obtain ⟨ys1, M2, zs2, hF, hrest, hz2⟩ := compL_cons hcl
      obtain ⟨Γ1, t, M5, hasg, hev, hres⟩ := turnC_ok hF
      obtain ⟨go, yl⟩ := y2 i ds[i] hd
      refine .inr ⟨go, fun H2 => ∃ w' M' zs acc accd, w'.H = H2 ∧ Ext w1 w' ∧ Bears R w' σ Γ M' (D :: T) ∧ i + 1 + (m - 1) = ds.length ∧ acc.length ≤ i + 1 ∧ w'.H D = some (.lst acc) ∧ RpAll R.K R.ca w' acc accd ∧
        compL (turnC vs tg' c iel Γ) (ds.drop (i + 1)) M' = .ok zs Mf ∧ accd ++ zs = ys, fun H2 h => ⟨m - 1, by omega, h⟩, fun x H3 hy => ?_⟩
      obtain ⟨w3, rfl, hw3, rx⟩ := yl x H3 hy
      have b3 : Bears R w3 σ Γ M' (D :: T) := by
        rcases hw3 with rfl | ⟨p, ob, hp, rfl⟩
        · exact b'
        · exact b'.at hp
      have p3 : Ext w' w3 := by
        rcases hw3 with rfl | ⟨p, ob, hp, rfl⟩
        · exact .refl _
        · exact Ext.at hp
      refine ⟨w3, wipeE Γ vs, M', D :: T, ds[i], Γ1, rfl, b3.wipe.cold, rx, hasg, fun σ4 b4 hw4 => ⟨?_, ?_⟩⟩
      · rw [hw4 vs fun j hj => ?_, wipe_wipe]
        have := List.all_eq_true.mp hsub j hj
        simpa using this
      · refine ⟨w3, Γ1, M', D :: T, rfl, b4, ?_⟩
        rw [hev]
        intro w5 e5 b5
        have E5 : Ext w' w5 := p3.trans e5
        have D5 : w5.H D = some (.lst acc) := E5.keep D _ hDl nκ
        rcases hres with ⟨rfl, yv, hel, rfl⟩ | ⟨rfl, rfl, rfl⟩
        · refine iteT ⟨w5, Γ1, M5, D :: T, rfl, b5, ?_⟩
          rw [hel]
          intro w6 e6 b6 v rv
          have E6 : Ext w' w6 := E5.trans e6
          have D6 : w6.H D = some (.lst acc) := E6.keep D _ hDl nκ
          have B6 : Bears R w6 σ Γ M2 (D :: T) := b'.call E6 b6.mem b6.zt
          have nf : ∀ o u, w6.H D ≠ some (.frz o u) := fun o u => by rw [D6]; simp
          have zD : w6.Z D := (B6.tmp D List.mem_cons_self).1
          have E1 : Ext w1 w6 := e'.trans E6
          refine ⟨acc, D6, by omega, w6.at D (.lst (acc ++ [v])), M2, zs2, acc ++ [v], accd ++ [yv], rfl, ⟨E1.κ, E1.z, E1.z2, fun a u ha n => (upd_ne (fun q => by rw [q, hD] at ha; cases ha)).trans (E1.keep a u ha n), fun a ha => ?_⟩, B6.write List.mem_cons_self nf, by omega, by rw [List.length_append]; simpa using hal, upd_same,
            RpAll.append (RpAll.wr zD nf (ra.ext E6)) (.cons (Rp.wr zD nf rv) .nil), hrest, by rw [← hys, hz2, List.append_assoc]⟩
          show upd w6.H D _ a ≠ none
          unfold upd
          split
          · simp
          · exact E1.there a ha
        · refine iteF ⟨w5, M2, zs2, acc, accd, rfl, e'.trans E5, b'.call E5 b5.mem b5.zt, by omega, by omega, D5, ra.ext E5, hrest, by rw [← hys, hz2]; rfl⟩
/-- [el for tg in e if c]: a new list -/
theorem f_lc (B : Bd S k ca X R) (hi : PI X tg e (tI R true it)) (ok : blkB S scope own = true)
    (hg : ∀ (s : Shared) (H : Hp) (C : Addr) (cl : List (Str × Addr)) (fp : List Addr), PG (X.blk s H scope (compEnvC scope cl C X.env) fp) tg (gT R.cold tg'))
    (ht : ∀ (s : Shared) (H : Hp) (C : Addr) (cl : List (Str × Addr)) (fp : List Addr), PTs (X.blk s H scope (compEnvC scope cl C X.env) fp) ifs (tT R.cold c))
    (he : ∀ (s : Shared) (H : Hp) (C : Addr) (cl : List (Str × Addr)) (fp : List Addr), PE (X.blk s H scope (compEnvC scope cl C X.env) fp) el (tE R.cold false iel))
    (hsub : (tgSlots tg').all (fun i => (own.map (·.2)).contains i) = true) (hs : ∀ x, foldedSetIterable e X.env x = pure x := by intro _; rfl) :
    PE X (.ListComp el [⟨tg, e, ifs, 0⟩] scope pos) (tF R (.comp (own.map (·.2)) tg' it c iel)) := by
  exact PEmono (pe_lc B.calm (B.nN ▸ B.nd) hi (blk_ok B ok) hg ht he hs) (lc_red hsub)
theorem lc_nd {own : List Nat} : ∀ Γ M d M', ev (.comp own tg' it c iel) Γ M = .ok d M' → notDict d := fun Γ M d M' h => by
  obtain ⟨x, M1, h1, h⟩ := bnd_okE (show bnd (ev it Γ M) _ = .ok d M' from h)
  cases q : items x with
  | none => rw [q] at h; cases h
  | some ds =>
    rw [q] at h
    cases q2 : compL (turnC own tg' c iel Γ) ds M1 with
    | ok ys M2 =>
      have h : noErr (bnd (compL (turnC own tg' c iel Γ) ds M1) fun ys M => Res.ok (D.lst ys) M) = .ok d M' := h
      rw [q2] at h
      cases h
      trivial
    | err x M2 =>
      have h : noErr (bnd (compL (turnC own tg' c iel Γ) ds M1) fun ys M => Res.ok (D.lst ys) M) = .ok d M' := h
      rw [q2] at h
      cases h
    | stuck =>
      have h : noErr (bnd (compL (turnC own tg' c iel Γ) ds M1) fun ys M => Res.ok (D.lst ys) M) = .ok d M' := h
      rw [q2] at h
      cases h
end
end Pk

set_option Elab.async false
set_option linter.all false
set_option autoImplicit false
set_option maxRecDepth 100000
set_option maxHeartbeats 1000000
/-! Sound9: operators on data. -/
namespace Pk
open PySem PySem.Spec PyProof.Rows L2

/-! ### a dict beside texts -/
theorem str_declines_dict (b : Str) (u : Tok) (l : Addr) (o : Obj) (es : Array DictEntry) (n : Nat) :
    Meets (Builtin.«str.__eq__» ⟨[.str b u, .ref l], []⟩) (fun _ R s => s.heap.get? l = some o ∧ o.cls = .type "dict" ∧ o.data = .dict es n ∧ R (.ok (.ret .notImplemented)) s) :=
  .of_wp fun prog w A R s h => by
    obtain ⟨hp, g, d, tk, os⟩ := s
    obtain ⟨hl, hc, hd, h⟩ := h
    obtain ⟨oc, od, dt, sl⟩ := o
    simp only at hc hd
    subst hc hd
    wp_walk using wpAny_loadPart' hl, wpAny_load hl
    exact ⟨_, rfl, h⟩
theorem dict_declines_str (b : Str) (u : Tok) (l : Addr) (o : Obj) (es : Array DictEntry) (n : Nat) :
    Meets (Builtin.«dict.__eq__» ⟨[.ref l, .str b u], []⟩) (fun _ R s => s.heap.get? l = some o ∧ o.cls = .type "dict" ∧ o.data = .dict es n ∧ R (.ok (.ret .notImplemented)) s) :=
  .of_wp fun prog w A R s h => by
    obtain ⟨hp, g, d, tk, os⟩ := s
    obtain ⟨hl, hc, hd, h⟩ := h
    have ty : (⟨hp, g, d, tk, os⟩ : Shared).TypeIs (.ref l) "dict" := ⟨o, hl, hc⟩
    show wpAny _ _ (Builtin.Dict.dictSlotArgs "__eq__" ⟨[.ref l, .str b u], []⟩ >>= _) _ _ _
    refine wpAny_bind ?_
    unfold Builtin.Dict.dictSlotArgs
    refine wpAny_bind (wpAny_notOrdered_dict ty ?_)
    show wpAny _ _ (pure (Value.ref l, Value.str b u)) _ _ _
    refine wpAny_pure ?_
    have f1 := F.sub_str_dict
    wp_walk
    exact ⟨_, rfl, h⟩
/-- a dict's object -/
def IsDic (h : Heap) (a : Addr) : Prop := ∃ (o : Obj) (es : Array DictEntry) (n : Nat), h.get? a = some o ∧ o.cls = .type "dict" ∧ o.data = .dict es n
theorem eq_str_dict {A : Around} {s : Shared} {l : Addr} (b : Str) (u : Tok) (h : IsDic s.heap l) (hu : A.units < cLine) : SeqAt.EqAt A s (.str b u) (.ref l) false := fun prog w E Q hq => by
  obtain ⟨o, es, n, ho, hc, hd⟩ := h
  unfold eqBool
  refine wpAny_holding ?_
  refine wpAny_ite_split (fun hab => absurd (eq_of_beq hab) nofun) (fun _ => ?_)
  refine wpAny_bind (SeqAt.rc_eq_decline_or (k := false) (typeIs_str s b u) ⟨o, ho, hc⟩ (by decide) F.sub_dict_str F.slot_str_eq F.slot_dict_eq_refl
    (fun _ hq => call_meets F.slot_str_eq (typeIs_str s b u) F.entry_str_eq (F.args_str_eq_2 _ _) (str_declines_dict b u l o es n) ⟨ho, hc, hd, hq⟩)
    (fun _ hq => call_meets F.slot_dict_eq_refl ⟨o, ho, hc⟩ F.entry_dict_eq (F.args_dict_eq_2 _ _) (dict_declines_str b u l o es n) ⟨ho, hc, hd, hq⟩)
    (fun _ hq => wpAny_of_eq (rfl : isSame (.str b u) (.ref l) = pure false) hq) (.inr hu) (wpAny_truthy_bool hq))
section
variable {X : Cx} {R : Rd0} {pins : List (Addr × Obj)} {s : Shared} {σ : L2.St} {w : Wd} {b : Bool} {vx vy : V} {ks ds ys : List D} {x : D} {u1 u2 : Value} {Q E : Value → Shared → Prop}
theorem rp_dic (hK : R.K = X.K) (I : Inv X pins σ w.H s) (hx : isDictD x = true) (rx : Rp R.K R.ca w b vx x) (r : RelV vx u1) : ∃ a, u1 = .ref a ∧ IsDic s.heap a := by
  cases rx with
  | @dK _ a o kvs _ _ e _ _ _ =>
    cases (show u1 = Value.ref a from r)
    obtain ⟨_, ho, hx, es, ep, vs, hd, _⟩ := I.frzK e
    exact ⟨a, rfl, o, es, ep, ho, hx.1, hd⟩
  | @dO a kvs _ _ e _ _ _ =>
    cases (show u1 = Value.ref a from r)
    obtain ⟨_, _, vs, _, o, es, ep, ho, hx, hd, _⟩ := (show ObjOk X.prog X.w w.H s.heap a (.dK kvs) from I.hok a _ e)
    exact ⟨a, rfl, o, es, ep, ho, hx.1, hd⟩
  | _ => cases hx
theorem strs_all {K : PySem.W.Frag} {ca : String → Addr} : ∀ {vs : List V} {us : List Value} {ys : List D}, RpAll K ca w vs ys → Vals vs us → ys.all isStrD = true → ∀ y ∈ us, ∃ z t, y = .str z t
  | _, _, _, .nil, .nil, _ => fun _ h => nomatch h
  | _, _, _, .cons (d := d) r rs, .cons v vs, h => by
    rw [List.all_cons, Bool.and_eq_true] at h
    intro y hy
    rcases List.mem_cons.mp hy with rfl | hy
    · cases r with
      | str z => obtain ⟨t, e⟩ := v; exact ⟨_, t, e⟩
      | _ => cases h.1
    · exact strs_all rs vs h.2 y hy
theorem dict_in (hK : R.K = X.K) (hu : X.A.units + 1 < cLine) (I : Inv X pins σ w.H s) (hx : isDictD x = true) (rx : Rp R.K R.ca w b vx x) (r1 : RelV vx u1) (hy : ys.all isStrD = true) (r2 : RelV vy u2) :
    (Rp R.K R.ca w b vy (.tup ys) → (Q (.bool false) s → wpAny (model X.prog X.w) X.A (compareOp .In u1 u2) Q E s) ∧ (Q (.bool true) s → wpAny (model X.prog X.w) X.A (compareOp .NotIn u1 u2) Q E s)) ∧
    (Rp R.K R.ca w b vy (.lst ys) → (Q (.bool false) s → wpAny (model X.prog X.w) X.A (compareOp .In u1 u2) Q E s) ∧ (Q (.bool true) s → wpAny (model X.prog X.w) X.A (compareOp .NotIn u1 u2) Q E s)) := by
  obtain ⟨a, rfl, hd⟩ := rp_dic hK I hx rx r1
  have one : ∀ {us : List Value}, (∀ y ∈ us, ∃ z t, y = .str z t) → ∀ y, y ∈ us.toArray → SeqAt.EqAt X.A.in1 s y (.ref a) ((fun _ => false) y) := fun {us} hs y hy => by
    obtain ⟨z, t, rfl⟩ := hs y (by simpa using hy)
    exact eq_str_dict z t hd hu
  have no : ∀ us : List Value, us.toArray.any (fun _ => false) = false := fun us => by simp
  refine ⟨fun ry => ?_, fun ry => ?_⟩
  · cases ry with
    | @tup _ c vs _ t ra =>
      cases (show u2 = Value.ref c from r2)
      obtain ⟨us, rv, p, _⟩ := I.tuple (hK ▸ t.sq)
      have hs := one (strs_all ra rv hy)
      exact ⟨fun q => SeqAt.in_tupleAt (fun _ => false) p hs (by rw [no]; exact q), fun q => SeqAt.notIn_tupleAt (fun _ => false) p hs (by rw [no]; exact q)⟩
  · cases ry with
    | @lst _ c vs _ e _ _ ra =>
      cases (show u2 = Value.ref c from r2)
      obtain ⟨us, rv, p, _⟩ := I.list (SqL.of e)
      have hs := one (strs_all ra rv hy)
      exact ⟨fun q => SeqAt.in_listAt (fun _ => false) p.isList hs (by rw [no]; exact q), fun q => SeqAt.notIn_listAt (fun _ => false) p.isList hs (by rw [no]; exact q)⟩
end
/-! ### data as the kit's data -/
mutual
def toPy : D → PyData
  | .non => .none
  | .bl b => .bool b
  | .int i => .int i
  | .str s => .str (sof s)
  | .tup xs => .tuple (toPys xs)
  | .lst xs => .list (toPys xs)
  | _ => .none
def toPys : List D → List PyData
  | [] => []
  | x :: xs => toPy x :: toPys xs
end
theorem toPys_map : ∀ xs : List D, toPys xs = xs.map toPy
  | [] => rfl
  | x :: xs => by show toPy x :: toPys xs = _; rw [toPys_map xs]; rfl
theorem pl_shape : ∀ (n : Nat) (d : D), pl n d = true → (toPy d).canLay0 = true ∧ (toPy d).depth ≤ n := by
  intro n
  induction n with
  | zero =>
    intro d h
    cases d <;> first | exact ⟨rfl, Nat.le_refl _⟩ | (exfalso; revert h; simp [pl]; done) | skip
    case str s =>
      refine ⟨?_, Nat.le_refl _⟩
      have h : s.all (fun c => decide (c < 1114112)) = true := h
      show (sof s).cps.all (· < 0x110000) = true
      rw [← Array.all_toList]
      exact h
  | succ n ih =>
    have all : ∀ xs : List D, xs.all (pl n) = true → PyData.canLayAll0 (toPys xs) = true ∧ PyData.depthAll (toPys xs) ≤ n := by
      intro xs
      induction xs with
      | nil => intro _; exact ⟨rfl, Nat.zero_le _⟩
      | cons x xs ihx =>
        intro h
        rw [List.all_cons, Bool.and_eq_true] at h
        obtain ⟨h1, h2⟩ := ih x h.1
        obtain ⟨h3, h4⟩ := ihx h.2
        exact ⟨by show (PyData.canLay0 (toPy x) && PyData.canLayAll0 (toPys xs)) = true; rw [h1, h3]; rfl, Nat.max_le.mpr ⟨h2, h4⟩⟩
    intro d h
    cases d <;> first | exact ⟨rfl, Nat.zero_le _⟩ | (exfalso; revert h; simp [pl]; done) | skip
    case str s =>
      refine ⟨?_, Nat.zero_le _⟩
      have h : s.all (fun c => decide (c < 1114112)) = true := h
      show (sof s).cps.all (· < 0x110000) = true
      rw [← Array.all_toList]
      exact h
    case tup xs => exact ⟨(all xs h).1, Nat.succ_le_succ (all xs h).2⟩
    case lst xs => exact ⟨(all xs h).1, Nat.succ_le_succ (all xs h).2⟩
theorem pl_shaped {n : Nat} {d : D} (h : pl n d = true) (hn : n ≤ 64) : SeqAt.shaped (toPy d) = true := by
  obtain ⟨h1, h2⟩ := pl_shape n d h
  unfold SeqAt.shaped
  rw [h1]
  simp
  omega
theorem sof_beq (s t : Cs) : (sof s == sof t) = decide (s = t) := by
  by_cases h : s = t
  · subst h; simp
  · have : sof s ≠ sof t := fun e => h (sof_inj e)
    simp [h, this]
theorem eqv_eq : ∀ (n : Nat) (a b : D), pl n a = true → pl n b = true → PyData.eqv (toPy a) (toPy b) = eqD a b := by
  intro n
  induction n with
  | zero =>
    intro a b ha hb
    cases a <;> first | (exfalso; revert ha; simp [pl]; done) | skip
    all_goals cases b <;> first | (exfalso; revert hb; simp [pl]; done) | skip
    all_goals simp [toPy, PyData.eqv, eqD, sof_beq]
    all_goals rfl
  | succ n ih =>
    have all : ∀ xs ys : List D, xs.all (pl n) = true → ys.all (pl n) = true → PyData.eqvAll (toPys xs) (toPys ys) = eqDs xs ys := by
      intro xs
      induction xs with
      | nil =>
        intro ys _ _
        cases ys <;> simp [toPys, PyData.eqvAll, eqDs]
      | cons x xs ihx =>
        intro ys hx hy
        cases ys with
        | nil => simp [toPys, PyData.eqvAll, eqDs]
        | cons y ys =>
          rw [List.all_cons, Bool.and_eq_true] at hx hy
          simp only [toPys, PyData.eqvAll, eqDs]
          rw [ih x y hx.1 hy.1, ihx ys hx.2 hy.2]
    intro a b ha hb
    cases a <;> first | (exfalso; revert ha; simp [pl]; done) | skip
    all_goals cases b <;> first | (exfalso; revert hb; simp [pl]; done) | skip
    case tup.tup xs ys =>
      simp only [toPy, PyData.eqv, eqD]
      exact all xs ys ha hb
    case lst.lst xs ys =>
      simp only [toPy, PyData.eqv, eqD]
      exact all xs ys ha hb
    all_goals simp [toPy, PyData.eqv, eqD, sof_beq]
    all_goals rfl
section
variable {K : PySem.W.Frag} {ca : String → Addr} {w : Wd}
theorem rp_dp : ∀ (n : Nat) {b : Bool} {v : V} {d : D}, Rp K ca w b v d → pl n d = true → Dp K w.H v (toPy d) := by
  intro n
  induction n with
  | zero =>
    intro b v d r h
    cases r <;> first | (exfalso; revert h; simp [pl]; done) | skip
    · exact .non
    · exact .bl _
    · exact .int _
    · exact .str _
  | succ n ih =>
    have all : ∀ {vs : List V} {ds : List D}, RpAll K ca w vs ds → ds.all (pl n) = true → DpAll K w.H vs (toPys ds) := by
      intro vs ds
      induction ds generalizing vs with
      | nil => intro r _; cases r; exact .nil
      | cons d ds ihd =>
        intro r h
        cases r with
        | cons r1 rr =>
          rw [List.all_cons, Bool.and_eq_true] at h
          exact .cons (ih r1 h.1) (ihd rr h.2)
    intro b v d r h
    cases r with
    | non => exact .non
    | bl _ => exact .bl _
    | int _ => exact .int _
    | str _ => exact .str _
    | lst h1 _ _ ra => exact .lst (.of h1) (all ra h)
    | tup h1 ra => exact .tup h1.sq (all ra h)
    | scr _ _ => exact absurd h (by simp [pl])
    | dK _ _ _ _ => exact absurd h (by simp [pl])
    | dO _ _ _ _ => exact absurd h (by simp [pl])
    | ins _ _ _ _ _ => exact absurd h (by simp [pl])
    | ref _ => exact absurd h (by simp [pl])
    | cls _ => exact absurd h (by simp [pl])
end

/-! ### new objects -/
section
variable {R : Rd0} {w : Wd} {σ : L2.St} {Γ : Env} {M : Mem} {T : List Addr} {p : Addr} {vs : List V} {ds : List D}
theorem new_nκ (b : Bears R w σ Γ M T) (hp : w.H p = none) : p ∉ w.κ := fun h => b.zt p (b.mem.z p h) hp
theorem new_lst (b : Bears R w σ Γ M T) (hp : w.H p = none) (r : RpAll R.K R.ca w vs ds) : Rp R.K R.ca (w.at p (.lst vs)) false (.ref p) (.lst ds) :=
  .lst upd_same (by have := new_nκ b hp; exact this) (fun _ z => b.zt p z hp) (r.ext (Ext.at hp))
theorem new_tup (b : Bears R w σ Γ M T) (hp : w.H p = none) (r : RpAll R.K R.ca w vs ds) : Rp R.K R.ca (w.at p (.tup vs)) false (.ref p) (.tup ds) :=
  .tup (.inl ⟨upd_same, by have := new_nκ b hp; exact this, fun z => b.zt p z hp⟩) (r.ext (Ext.at hp))
theorem OutR.new {d : D} {Q : D → Mem → Wd → Prop} {o : HO} (h : OutR R σ Γ T w (.ok d M) Q) (b : Bears R w σ Γ M T) (hp : w.H p = none) : Q d M (w.at p o) := h _ (Ext.at hp) (b.at hp)
end

/-! ### dunders of own classes -/
/-- the operator f meets an own class's dunder m on its left -/
def DunP (q : Bool) (X : Cx) (R : Rd0) (tb : Tab) (m : String) (f : Value → Value → Sem Value) : Prop := ∀ (c : String) (F : Fn), tb c m = some F →
  ∀ (pins : List (Addr × Obj)) (s : Shared) (σ : L2.St) (Γ : Env) (M : Mem) (T : List Addr) (w : Wd) (ns : List String) (ds : List D) (y : D) (vx vy : V) (u1 u2 : Value) (Q : VK), Inv X pins σ w.H s → Bears R w σ Γ M T →
    Rp R.K R.ca w q vx (.ins c ns ds) → Rp R.K R.ca w q vy y → RelV vx u1 → RelV vy u2 →
    OutR R σ Γ T w (F [.ins c ns ds, y] M) (fun d _ w' => ∀ v, Rp R.K R.ca w' false v d → Q v w'.H) → wpAny (model X.prog X.w) X.A (f u1 u2) (EP X pins σ Q) X.xe s
theorem dun0 {q : Bool} {X : Cx} {R : Rd0} {m : String} {f : Value → Value → Sem Value} : DunP q X R tab0 m f := fun _ _ h => nomatch h
theorem dunder_of {q : Bool} {X : Cx} {R : Rd0} {tb : Tab} {m : String} {f : Value → Value → Sem Value} (hd : DunP q X R tb m f) {x y : D} {F : Fn} (hF : ∀ M, F [x, y] M = dunder tb m [x, y] M) :
    ∀ (pins : List (Addr × Obj)) (s : Shared) (σ : L2.St) (Γ : Env) (M : Mem) (T : List Addr) (w : Wd) (vx vy : V) (u1 u2 : Value) (Q : VK), Inv X pins σ w.H s → Bears R w σ Γ M T → Rp R.K R.ca w q vx x → Rp R.K R.ca w q vy y → RelV vx u1 → RelV vy u2 →
    OutR R σ Γ T w (F [x, y] M) (fun d _ w' => ∀ v, Rp R.K R.ca w' false v d → Q v w'.H) → wpAny (model X.prog X.w) X.A (f u1 u2) (EP X pins σ Q) X.xe s := by
  intro pins s σ Γ M T w vx vy u1 u2 Q I b rx ry r1 r2 o
  rw [hF] at o
  cases x <;> first | exact (show False from o).elim | skip
  rename_i c ns ds
  have o : OutR R σ Γ T w (match tb c m with
    | some F => F [.ins c ns ds, y] M
    | none => .stuck) _ := o
  cases q : tb c m with
  | none => rw [q] at o; exact o.elim
  | some F =>
    rw [q] at o
    exact hd c F q pins s σ Γ M T w ns ds y vx vy u1 u2 Q I b rx ry r1 r2 o

section
variable {S : Sx} {k : Nat} {ca : String → Addr} {X : Cx} {R : Rd0} {tb : Tab}
theorem Bd.hu (B : Bd S k ca X R) : X.A.units + 65 < cLine := by
  have := B.room.un
  omega
/-- + -/
theorem oq_add {q : Bool} (B : Bd S k ca X R) (hd : DunP q X R tb "__add__" (binaryOp .Add)) : OpPb q X R (binaryOp .Add) (pAdd tb) := by
  intro pins s σ Γ M T w x y vx vy u1 u2 Q I b rx ry r1 r2 o
  have hz : sizeLine = 16777216 := sizeLine_eq
  by_cases hk : (∃ i j, x = .int i ∧ y = .int j) ∨ (∃ i j, x = .str i ∧ y = .str j) ∨ (∃ i j, x = .lst i ∧ y = .lst j) ∨ (∃ i j, x = .tup i ∧ y = .tup j)
  · rcases hk with ⟨i, j, rfl, rfl⟩ | ⟨i, j, rfl, rfl⟩ | ⟨i, j, rfl, rfl⟩ | ⟨i, j, rfl, rfl⟩
    · cases rx; cases ry
      exact op_add pins s σ w.H _ _ u1 u2 Q I r1 r2 ⟨i, j, rfl, rfl, OutR.here (a := D.int (i + j)) o b _ (.int _)⟩
    · cases rx; cases ry
      have o : OutR R σ Γ T w (if i.length + j.length ≤ lim then Res.ok (D.str (i ++ j)) M else Res.stuck) _ := o
      by_cases c : i.length + j.length ≤ lim
      · rw [if_pos c] at o
        refine op_add_str pins s σ w.H _ _ u1 u2 Q I r1 r2 ⟨_, _, rfl, rfl, by rw [sof_len, sof_len, hz]; unfold lim at c; omega, ?_⟩
        have e : sof i ++ sof j = sof (i ++ j) := by
          show Str.mk (i.toArray ++ j.toArray) = Str.mk (i ++ j).toArray
          simp
        rw [e]
        exact OutR.here o b _ (.str _)
      · rw [if_neg c] at o; exact o.elim
    · cases rx with
      | lst h1 n1 z1 a1 =>
      cases ry with
      | lst h2 n2 z2 a2 =>
      have o : OutR R σ Γ T w (if i.length + j.length ≤ lim then Res.ok (D.lst (i ++ j)) M else Res.stuck) _ := o
      by_cases c : i.length + j.length ≤ lim
      · rw [if_pos c] at o
        refine op_cat pins s σ w.H _ _ u1 u2 Q I r1 r2 ⟨_, _, _, _, rfl, rfl, h1, h2, by rw [a1.length, a2.length, hz]; unfold lim at c; omega, fun p hp => ?_⟩
        exact OutR.new o b hp _ (new_lst b hp (a1.append a2))
      · rw [if_neg c] at o; exact o.elim
    · cases id rx with
      | tup h1 a1 =>
      cases id ry with
      | tup h2 a2 =>
      have o : OutR R σ Γ T w (if i.length + j.length ≤ lim then Res.ok (D.tup (i ++ j)) M else Res.stuck) _ := o
      by_cases c : i.length + j.length ≤ lim
      · rw [if_pos c] at o
        refine op_catA pins s σ w.H _ _ u1 u2 Q I r1 r2 ⟨_, _, _, _, rfl, rfl, B.RK ▸ h1.sq, B.RK ▸ h2.sq, by rw [a1.length, a2.length, hz]; unfold lim at c; omega, fun e => ?_, fun _ e => ?_, fun _ _ p hp => ?_⟩
        · subst e
          cases a1
          exact OutR.here o b _ (by rw [List.nil_append]; exact .tup h2 a2)
        · subst e
          cases a2
          exact OutR.here o b _ (by rw [List.append_nil]; exact .tup h1 a1)
        · exact OutR.new o b hp _ (new_tup b hp (a1.append a2))
      · rw [if_neg c] at o; exact o.elim
  · refine dunder_of (F := pAdd tb) hd (fun M => ?_) pins s σ Γ M T w vx vy u1 u2 Q I b rx ry r1 r2 o
    unfold pAdd
    split <;> first | rfl | (rename_i e; cases e; exfalso; apply hk; first | exact .inl ⟨_, _, rfl, rfl⟩ | exact .inr (.inl ⟨_, _, rfl, rfl⟩) | exact .inr (.inr (.inl ⟨_, _, rfl, rfl⟩)) | exact .inr (.inr (.inr ⟨_, _, rfl, rfl⟩)))
/-- - -/
theorem oq_sub {q : Bool} (hd : DunP q X R tb "__sub__" (binaryOp .Sub)) : OpPb q X R (binaryOp .Sub) (pSub tb) := by
  intro pins s σ Γ M T w x y vx vy u1 u2 Q I b rx ry r1 r2 o
  by_cases hk : ∃ i j, x = .int i ∧ y = .int j
  · obtain ⟨i, j, rfl, rfl⟩ := hk
    cases rx; cases ry
    exact op_sub pins s σ w.H _ _ u1 u2 Q I r1 r2 ⟨i, j, rfl, rfl, OutR.here (a := D.int (i - j)) o b _ (.int _)⟩
  · refine dunder_of (F := pSub tb) hd (fun M => ?_) pins s σ Γ M T w vx vy u1 u2 Q I b rx ry r1 r2 o
    unfold pSub
    split <;> first | rfl | (rename_i e; cases e; exact (hk ⟨_, _, rfl, rfl⟩).elim)
/-- ints in, a value out, under a condition -/
theorem o_int {f : Value → Value → Sem Value} {F : Fn} {g : Int → Int → D} {gv : Int → Int → V} {C : Int → Int → Prop} (ho : OpR X f (rI C gv))
    (hF : ∀ x y M, (∃ i j, x = .int i ∧ y = .int j ∧ C i j ∧ F [x, y] M = .ok (g i j) M) ∨ F [x, y] M = .stuck) (hg : ∀ i j w, Rp R.K R.ca w false (gv i j) (g i j)) : OpP X R f F :=
  .of ho (p2_int hF hg)
theorem o_mul : OpP X R (binaryOp .Mult) pMul := o_int op_mul (fun x y M => by
  by_cases hk : ∃ i j, x = .int i ∧ y = .int j
  · obtain ⟨i, j, rfl, rfl⟩ := hk
    by_cases c : i.natAbs < 2 ^ 64 ∨ j.natAbs < 2 ^ 64
    · have c' : (-(2 ^ 64) < i ∧ i < 2 ^ 64) ∨ (-(2 ^ 64) < j ∧ j < 2 ^ 64) := by omega
      exact .inl ⟨i, j, rfl, rfl, c', if_pos c⟩
    · exact .inr (if_neg c)
  · right
    unfold pMul
    split <;> first | rfl | (rename_i e; cases e; exact (hk ⟨_, _, rfl, rfl⟩).elim)) (g := fun i j => .int (i * j)) fun i j w => .int _
theorem log_small {j : Int} (h0 : 0 < j) (h : j.toNat < 2 ^ 256) : j.natAbs.log2 < 9000 := by
  have h1 : j.natAbs < 2 ^ 256 := by omega
  have hne : j.natAbs ≠ 0 := by omega
  exact Nat.lt_of_lt_of_le ((Nat.log2_lt hne).mpr h1) (by decide)
theorem o_div : OpP X R (binaryOp .FloorDiv) pDiv := o_int op_fdivW (fun x y M => by
  by_cases hk : ∃ i j, x = .int i ∧ y = .int j
  · obtain ⟨i, j, rfl, rfl⟩ := hk
    by_cases c : 0 < j ∧ j.toNat < 2 ^ 256
    · exact .inl ⟨i, j, rfl, rfl, ⟨c.1, log_small c.1 c.2⟩, if_pos c⟩
    · exact .inr (if_neg c)
  · right
    unfold pDiv
    split <;> first | rfl | (rename_i e; cases e; exact (hk ⟨_, _, rfl, rfl⟩).elim)) (g := fun i j => .int (i / j)) fun i j w => .int _
theorem o_mod : OpP X R (binaryOp .Mod) pMod := o_int op_mod (fun x y M => by
  by_cases hk : ∃ i j, x = .int i ∧ y = .int j
  · obtain ⟨i, j, rfl, rfl⟩ := hk
    by_cases c : 0 < j
    · exact .inl ⟨i, j, rfl, rfl, c, if_pos c⟩
    · exact .inr (if_neg c)
  · right
    unfold pMod
    split <;> first | rfl | (rename_i e; cases e; exact (hk ⟨_, _, rfl, rfl⟩).elim)) (g := fun i j => .int (i % j)) fun i j w => .int _
theorem o_pow : OpP X R (binaryOp .Pow) pPow := o_int op_pow (fun x y M => by
  by_cases hk : ∃ i j, x = .int i ∧ y = .int j
  · obtain ⟨i, j, rfl, rfl⟩ := hk
    by_cases c : 0 ≤ j ∧ j.toNat ≤ 1000 ∧ i.natAbs < 2 ^ 64
    · exact .inl ⟨i, j, rfl, rfl, ⟨c.1, by omega, by omega⟩, if_pos c⟩
    · exact .inr (if_neg c)
  · right
    unfold pPow
    split <;> first | rfl | (rename_i e; cases e; exact (hk ⟨_, _, rfl, rfl⟩).elim)) (g := fun i j => .int (i ^ j.toNat)) fun i j w => .int _
/-- ints in, a bool out -/
theorem o_int0 {f : Value → Value → Sem Value} {F : Fn} {g : Int → Int → Bool} (ho : OpR X f (rI0 fun i j => .bl (g i j)))
    (hF : ∀ x y M, (∃ i j, x = .int i ∧ y = .int j ∧ F [x, y] M = .ok (.bl (g i j)) M) ∨ F [x, y] M = .stuck) : OpP X R f F := by
  intro pins s σ Γ M T w x y vx vy u1 u2 Q I b rx ry r1 r2 o
  rcases hF x y M with ⟨i, j, rfl, rfl, h⟩ | h
  · rw [h] at o
    cases rx; cases ry
    exact ho pins s σ w.H _ _ u1 u2 Q I r1 r2 ⟨i, j, rfl, rfl, OutR.here o b _ (.bl _)⟩
  · rw [h] at o; exact o.elim
theorem o_lt : OpP X R (compareOp .Lt) pLt := o_int0 op_lt fun x y M => by
  by_cases hk : ∃ i j, x = .int i ∧ y = .int j
  · obtain ⟨i, j, rfl, rfl⟩ := hk; exact .inl ⟨i, j, rfl, rfl, rfl⟩
  · right; unfold pLt; split <;> first | rfl | (rename_i e; cases e; exact (hk ⟨_, _, rfl, rfl⟩).elim)
theorem o_le : OpP X R (compareOp .LtE) pLe := o_int0 op_le fun x y M => by
  by_cases hk : ∃ i j, x = .int i ∧ y = .int j
  · obtain ⟨i, j, rfl, rfl⟩ := hk; exact .inl ⟨i, j, rfl, rfl, rfl⟩
  · right; unfold pLe; split <;> first | rfl | (rename_i e; cases e; exact (hk ⟨_, _, rfl, rfl⟩).elim)
theorem o_gt : OpP X R (compareOp .Gt) pGt := o_int0 op_gt fun x y M => by
  by_cases hk : ∃ i j, x = .int i ∧ y = .int j
  · obtain ⟨i, j, rfl, rfl⟩ := hk; exact .inl ⟨i, j, rfl, rfl, rfl⟩
  · right; unfold pGt; split <;> first | rfl | (rename_i e; cases e; exact (hk ⟨_, _, rfl, rfl⟩).elim)
theorem o_ge : OpP X R (compareOp .GtE) pGe := o_int0 op_ge fun x y M => by
  by_cases hk : ∃ i j, x = .int i ∧ y = .int j
  · obtain ⟨i, j, rfl, rfl⟩ := hk; exact .inl ⟨i, j, rfl, rfl, rfl⟩
  · right; unfold pGe; split <;> first | rfl | (rename_i e; cases e; exact (hk ⟨_, _, rfl, rfl⟩).elim)
theorem str_dec {s t : Cs} : decide (V.str (sof s) = V.str (sof t)) = decide (s = t) := by
  apply decide_eq_decide.mpr
  exact ⟨fun h => by injection h with h; exact sof_inj h, fun h => by rw [h]⟩
theorem pEq_data {x y : D} {M : Mem} (hk : ∀ c ns vs, x ≠ .ins c ns vs) : pEq tb [x, y] M = optB (cmp x y) M := by
  cases x <;> first | rfl | exact absurd rfl (hk _ _ _)
/-- == -/
theorem oq_eq {q : Bool} (B : Bd S k ca X R) (hd : DunP q X R tb "__eq__" (compareOp .Eq)) : OpPb q X R (compareOp .Eq) (pEq tb) := by
  intro pins s σ Γ M T w x y vx vy u1 u2 Q I b rx ry r1 r2 o
  by_cases hk : ∃ c ns vs, x = .ins c ns vs
  · obtain ⟨c, ns, vs, rfl⟩ := hk
    exact dunder_of (F := pEq tb) hd (fun M => rfl) pins s σ Γ M T w vx vy u1 u2 Q I b rx ry r1 r2 o
  · rw [pEq_data (fun c ns vs e => hk ⟨c, ns, vs, e⟩)] at o
    by_cases hs : ∃ s t, x = .str s ∧ y = .str t
    · obtain ⟨s1, t1, rfl, rfl⟩ := hs
      cases rx; cases ry
      refine op_eq pins s σ w.H _ _ u1 u2 Q I r1 r2 ⟨rfl, ?_⟩
      rw [str_dec]
      exact OutR.here (a := D.bl (decide (s1 = t1))) o b _ (.bl _)
    rw [cmp_if hs] at o
    by_cases c : (pl 8 x && pl 8 y) = true
    · rw [if_pos c] at o
      rw [Bool.and_eq_true] at c
      exact op_eqD (by have := B.hu; omega) pins s σ w.H _ _ u1 u2 Q I r1 r2 ⟨toPy x, toPy y, B.RK ▸ rp_dp 8 rx c.1, B.RK ▸ rp_dp 8 ry c.2, pl_shaped c.1 (by decide), pl_shaped c.2 (by decide), by
        rw [eqv_eq 8 x y c.1 c.2]; exact OutR.here (a := D.bl (eqD x y)) o b _ (.bl _)⟩
    · rw [if_neg c] at o; exact o.elim
theorem negB_bnd {x : Res D} {σ : L2.St} {Γ : Env} {T : List Addr} {w : Wd} {Q : D → Mem → Wd → Prop} (o : OutR R σ Γ T w (negB x) Q) : OutR R σ Γ T w x fun d M1 w1 => ∃ t, d = .bl t ∧ Q (.bl (!t)) M1 w1 := by
  cases x with
  | ok d M1 =>
    intro w1 e1 b1
    cases d with
    | bl t => exact ⟨t, rfl, o w1 e1 b1⟩
    | _ => exact (show False from o).elim
  | err e M1 => exact o
  | stuck => exact o
/-- !=, data alone -/
theorem o_eq (B : Bd S k ca X R) (hd : DunP true X R tb "__eq__" (compareOp .Eq)) : OpP X R (compareOp .Eq) (pEq tb) := oq_eq B hd
theorem o_add (B : Bd S k ca X R) (hd : DunP true X R tb "__add__" (binaryOp .Add)) : OpP X R (binaryOp .Add) (pAdd tb) := oq_add B hd
theorem o_sub (hd : DunP true X R tb "__sub__" (binaryOp .Sub)) : OpP X R (binaryOp .Sub) (pSub tb) := oq_sub hd
theorem o_ne (B : Bd S k ca X R) : OpP X R (compareOp .NotEq) (pNe tab0) := by
  intro pins s σ Γ M T w x y vx vy u1 u2 Q I b rx ry r1 r2 o
  have o := negB_bnd (x := pEq tab0 [x, y] M) o
  by_cases hk : ∃ c ns vs, x = .ins c ns vs
  · obtain ⟨c, ns, vs, rfl⟩ := hk
    exact (show False from o).elim
  · rw [pEq_data (fun c ns vs e => hk ⟨c, ns, vs, e⟩)] at o
    by_cases hs : ∃ s t, x = .str s ∧ y = .str t
    · obtain ⟨s1, t1, rfl, rfl⟩ := hs
      cases rx; cases ry
      refine op_ne pins s σ w.H _ _ u1 u2 Q I r1 r2 ⟨rfl, ?_⟩
      obtain ⟨t, ht, q⟩ := OutR.here (a := D.bl (decide (s1 = t1))) o b
      cases ht
      have e : (!decide (V.str (sof s1) = V.str (sof t1))) = !decide (s1 = t1) := by rw [str_dec]
      have q := q _ (.bl _)
      rw [← e] at q
      simpa using q
    rw [cmp_if hs] at o
    by_cases c : (pl 8 x && pl 8 y) = true
    · rw [if_pos c] at o
      rw [Bool.and_eq_true] at c
      exact op_neD (by have := B.hu; omega) pins s σ w.H _ _ u1 u2 Q I r1 r2 ⟨toPy x, toPy y, B.RK ▸ rp_dp 8 rx c.1, B.RK ▸ rp_dp 8 ry c.2, pl_shaped c.1 (by decide), pl_shaped c.2 (by decide), by
        rw [eqv_eq 8 x y c.1 c.2]
        obtain ⟨t, ht, q⟩ := OutR.here (a := D.bl (eqD x y)) o b
        cases ht
        exact q _ (.bl _)⟩
    · rw [if_neg c] at o; exact o.elim
end

/-! ### in, is -/
section
variable {S : Sx} {k : Nat} {ca : String → Addr} {X : Cx} {R : Rd0} {tb : Tab}
theorem any_toPys {x : D} : ∀ {ys : List D}, pl 8 x = true → ys.all (pl 8) = true → (toPys ys).any (fun z => PyData.eqv z (toPy x)) = ys.any fun y => eqD y x
  | [], _, _ => rfl
  | y :: ys, h, h2 => by
    rw [List.all_cons, Bool.and_eq_true] at h2
    show (PyData.eqv (toPy y) (toPy x) || (toPys ys).any _) = (eqD y x || ys.any _)
    rw [eqv_eq 8 y x h2.1 h, any_toPys h h2.2]
/-- a list or tuple of data is read -/
theorem seq_reads (B : Bd S k ca X R) {pins : List (Addr × Obj)} {s : Shared} {σ : L2.St} {w : Wd} {v : V} {u : Value} {d : D} {n : Nat} {b : Bool} (I : Inv X pins σ w.H s) (r : Rp R.K R.ca w b v d) (h : pl n d = true) (ru : RelV v u) : ∃ as, Reads s.heap u (toPy d) as :=
  Dp.reads I (toPy d) v u (B.RK ▸ rp_dp n r h) ru
theorem room_in (B : Bd S k ca X R) {x : D} (h : pl 8 x = true) {xs : List PyData} : X.A.units + 1 + min (PyData.depthAll xs) (toPy x).depth < cLine := by
  have h1 := (pl_shape 8 x h).2
  have h2 : min (PyData.depthAll xs) (toPy x).depth ≤ (toPy x).depth := Nat.min_le_right _ _
  have := B.hu
  omega
theorem pl_seq {ys : List D} (h : ys.all (pl 8) = true) : pl 9 (.lst ys) = true ∧ pl 9 (.tup ys) = true := ⟨h, h⟩
theorem canLays {ys : List D} (h : ys.all (pl 8) = true) : PyData.canLayAll0 (toPys ys) = true := (pl_shape 9 (.lst ys) h).1
/-- in -/
theorem oq_in {q : Bool} (B : Bd S k ca X R) (hd : ∀ (c : String) (F : Fn), tb c "__contains__" = some F →
    ∀ (pins : List (Addr × Obj)) (s : Shared) (σ : L2.St) (Γ : Env) (M : Mem) (T : List Addr) (w : Wd) (ns : List String) (ds : List D) (x : D) (vx vy : V) (u1 u2 : Value) (Q : VK), Inv X pins σ w.H s → Bears R w σ Γ M T →
      Rp R.K R.ca w q vx x → Rp R.K R.ca w q vy (.ins c ns ds) → RelV vx u1 → RelV vy u2 →
      OutR R σ Γ T w (F [.ins c ns ds, x] M) (fun d _ w' => ∀ v, Rp R.K R.ca w' false v d → Q v w'.H) → wpAny (model X.prog X.w) X.A (compareOp .In u1 u2) (EP X pins σ Q) X.xe s) : OpPb q X R (compareOp .In) (pIn tb) := by
  intro pins s σ Γ M T w x y vx vy u1 u2 Q I b rx ry r1 r2 o
  cases y with
  | lst ys =>
    have o : OutR R σ Γ T w (optB (inL x ys) M) _ := o
    unfold inL at o
    by_cases c : (pl 8 x && ys.all (pl 8)) = true
    · rw [if_pos c] at o
      rw [Bool.and_eq_true] at c
      obtain ⟨as, q1⟩ := seq_reads B (n := 9) I ry (pl_seq c.2).1 r2
      obtain ⟨bs, q2⟩ := seq_reads B I rx c.1 r1
      refine SeqAt.in_list_reads q1 q2 (canLays c.2) (pl_shape 8 x c.1).1 (room_in B c.1) ⟨.bl _, w.H, I, rfl, ?_⟩
      rw [any_toPys c.1 c.2]
      exact OutR.here (a := D.bl (ys.any fun y => eqD y x)) o b _ (.bl _)
    · rw [if_neg c] at o
      by_cases c2 : (isDictD x && ys.all isStrD) = true
      · rw [if_pos c2] at o
        rw [Bool.and_eq_true] at c2
        exact ((dict_in B.RK (by have := B.hu; omega) I c2.1 rx r1 c2.2 r2).2 ry).1 ⟨.bl false, w.H, I, rfl, OutR.here (a := D.bl false) o b _ (.bl _)⟩
      · rw [if_neg c2] at o; exact o.elim
  | tup ys =>
    have o : OutR R σ Γ T w (optB (inL x ys) M) _ := o
    unfold inL at o
    by_cases c : (pl 8 x && ys.all (pl 8)) = true
    · rw [if_pos c] at o
      rw [Bool.and_eq_true] at c
      obtain ⟨as, q1⟩ := seq_reads B (n := 9) I ry (pl_seq c.2).2 r2
      obtain ⟨bs, q2⟩ := seq_reads B I rx c.1 r1
      refine SeqAt.in_tuple_reads q1 q2 (canLays c.2) (pl_shape 8 x c.1).1 (room_in B c.1) ⟨.bl _, w.H, I, rfl, ?_⟩
      rw [any_toPys c.1 c.2]
      exact OutR.here (a := D.bl (ys.any fun y => eqD y x)) o b _ (.bl _)
    · rw [if_neg c] at o
      by_cases c2 : (isDictD x && ys.all isStrD) = true
      · rw [if_pos c2] at o
        rw [Bool.and_eq_true] at c2
        exact ((dict_in B.RK (by have := B.hu; omega) I c2.1 rx r1 c2.2 r2).1 ry).1 ⟨.bl false, w.H, I, rfl, OutR.here (a := D.bl false) o b _ (.bl _)⟩
      · rw [if_neg c2] at o; exact o.elim
  | str z =>
    match x, rx, o with
    | .str [ch], rx, o =>
      cases rx; cases ry
      refine op_in_sign pins s σ w.H _ _ u1 u2 Q I r1 r2 ⟨ch, sof z, rfl, rfl, ?_⟩
      exact OutR.here (a := D.bl (decide (ch ∈ z))) o b _ (.bl _)
    | .str [], _, o => exact (show False from o).elim
    | .str (_ :: _ :: _), _, o => exact (show False from o).elim
    | .non, _, o => exact (show False from o).elim
    | .bl _, _, o => exact (show False from o).elim
    | .int _, _, o => exact (show False from o).elim
    | .tup _, _, o => exact (show False from o).elim
    | .lst _, _, o => exact (show False from o).elim
    | .dict _ _, _, o => exact (show False from o).elim
    | .ins _ _ _, _, o => exact (show False from o).elim
    | .ref _, _, o => exact (show False from o).elim
    | .scr _, _, o => exact (show False from o).elim
    | .cls _, _, o => exact (show False from o).elim
  | ins c ns ds =>
    have o : OutR R σ Γ T w (pIn tb [x, .ins c ns ds] M) _ := o
    have e : pIn tb [x, .ins c ns ds] M = match tb c "__contains__" with
      | some F => F [.ins c ns ds, x] M
      | none => .stuck := by cases x <;> rfl
    rw [e] at o
    cases q : tb c "__contains__" with
    | none => rw [q] at o; exact o.elim
    | some F => rw [q] at o; exact hd c F q pins s σ Γ M T w ns ds x vx vy u1 u2 Q I b rx ry r1 r2 o
  | _ => cases x <;> exact (show False from o).elim
/-- not in -/
theorem oq_notIn {q : Bool} (B : Bd S k ca X R) (hd : ∀ (c : String) (F : Fn), tb c "__contains__" = some F →
    ∀ (pins : List (Addr × Obj)) (s : Shared) (σ : L2.St) (Γ : Env) (M : Mem) (T : List Addr) (w : Wd) (ns : List String) (ds : List D) (x : D) (vx vy : V) (u1 u2 : Value) (Q : VK), Inv X pins σ w.H s → Bears R w σ Γ M T →
      Rp R.K R.ca w q vx x → Rp R.K R.ca w q vy (.ins c ns ds) → RelV vx u1 → RelV vy u2 →
      OutR R σ Γ T w (F [.ins c ns ds, x] M) (fun d _ w' => ∃ t : Bool, d = .bl t ∧ Q (.bl (!t)) w'.H) → wpAny (model X.prog X.w) X.A (compareOp .NotIn u1 u2) (EP X pins σ Q) X.xe s) : OpPb q X R (compareOp .NotIn) (pNotIn tb) := by
  intro pins s σ Γ M T w x y vx vy u1 u2 Q I b rx ry r1 r2 o
  have o := negB_bnd (x := pIn tb [x, y] M) o
  cases y with
  | lst ys =>
    have o : OutR R σ Γ T w (optB (inL x ys) M) _ := o
    unfold inL at o
    by_cases c : (pl 8 x && ys.all (pl 8)) = true
    · rw [if_pos c] at o
      rw [Bool.and_eq_true] at c
      obtain ⟨as, q1⟩ := seq_reads B (n := 9) I ry (pl_seq c.2).1 r2
      obtain ⟨bs, q2⟩ := seq_reads B I rx c.1 r1
      refine SeqAt.notIn_list_reads q1 q2 (canLays c.2) (pl_shape 8 x c.1).1 (room_in B c.1) ⟨.bl _, w.H, I, rfl, ?_⟩
      rw [any_toPys c.1 c.2]
      obtain ⟨t, ht, q⟩ := OutR.here (a := D.bl (ys.any fun y => eqD y x)) o b
      cases ht
      exact q _ (.bl _)
    · rw [if_neg c] at o
      by_cases c2 : (isDictD x && ys.all isStrD) = true
      · rw [if_pos c2] at o
        rw [Bool.and_eq_true] at c2
        obtain ⟨t, ht, q⟩ := OutR.here (a := D.bl false) o b
        cases ht
        exact ((dict_in B.RK (by have := B.hu; omega) I c2.1 rx r1 c2.2 r2).2 ry).2 ⟨.bl true, w.H, I, rfl, q _ (.bl _)⟩
      · rw [if_neg c2] at o; exact o.elim
  | tup ys =>
    have o : OutR R σ Γ T w (optB (inL x ys) M) _ := o
    unfold inL at o
    by_cases c : (pl 8 x && ys.all (pl 8)) = true
    · rw [if_pos c] at o
      rw [Bool.and_eq_true] at c
      obtain ⟨as, q1⟩ := seq_reads B (n := 9) I ry (pl_seq c.2).2 r2
      obtain ⟨bs, q2⟩ := seq_reads B I rx c.1 r1
      refine SeqAt.notIn_tuple_reads q1 q2 (canLays c.2) (pl_shape 8 x c.1).1 (room_in B c.1) ⟨.bl _, w.H, I, rfl, ?_⟩
      rw [any_toPys c.1 c.2]
      obtain ⟨t, ht, q⟩ := OutR.here (a := D.bl (ys.any fun y => eqD y x)) o b
      cases ht
      exact q _ (.bl _)
    · rw [if_neg c] at o
      by_cases c2 : (isDictD x && ys.all isStrD) = true
      · rw [if_pos c2] at o
        rw [Bool.and_eq_true] at c2
        obtain ⟨t, ht, q⟩ := OutR.here (a := D.bl false) o b
        cases ht
        exact ((dict_in B.RK (by have := B.hu; omega) I c2.1 rx r1 c2.2 r2).1 ry).2 ⟨.bl true, w.H, I, rfl, q _ (.bl _)⟩
      · rw [if_neg c2] at o; exact o.elim
  | str z =>
    match x, rx, o with
    | .str [ch], rx, o =>
      cases rx; cases ry
      refine op_notIn_sign pins s σ w.H _ _ u1 u2 Q I r1 r2 ⟨ch, sof z, rfl, rfl, ?_⟩
      obtain ⟨t, ht, q⟩ := OutR.here (a := D.bl (decide (ch ∈ z))) o b
      cases ht
      exact q _ (.bl _)
    | .str [], _, o => exact (show False from o).elim
    | .str (_ :: _ :: _), _, o => exact (show False from o).elim
    | .non, _, o => exact (show False from o).elim
    | .bl _, _, o => exact (show False from o).elim
    | .int _, _, o => exact (show False from o).elim
    | .tup _, _, o => exact (show False from o).elim
    | .lst _, _, o => exact (show False from o).elim
    | .dict _ _, _, o => exact (show False from o).elim
    | .ins _ _ _, _, o => exact (show False from o).elim
    | .ref _, _, o => exact (show False from o).elim
    | .scr _, _, o => exact (show False from o).elim
    | .cls _, _, o => exact (show False from o).elim
  | ins c ns ds =>
    have o : OutR R σ Γ T w (pIn tb [x, .ins c ns ds] M) _ := o
    have e : pIn tb [x, .ins c ns ds] M = match tb c "__contains__" with
      | some F => F [.ins c ns ds, x] M
      | none => .stuck := by cases x <;> rfl
    rw [e] at o
    cases q : tb c "__contains__" with
    | none => rw [q] at o; exact o.elim
    | some F =>
      rw [q] at o
      exact hd c F q pins s σ Γ M T w ns ds x vx vy u1 u2 Q I b rx ry r1 r2 (OutR.imp o fun d M1 w1 _ _ h => by obtain ⟨t, e, h⟩ := h; exact ⟨t, e, h _ (.bl _)⟩)
  | _ => cases x <;> exact (show False from o).elim
/-- not in, data alone -/
theorem o_notIn (B : Bd S k ca X R) : OpP X R (compareOp .NotIn) (pNotIn tab0) := oq_notIn B fun _ _ h => nomatch h
/-- is None -/
theorem rp_non {w : Wd} {b : Bool} {v : V} {d : D} (r : Rp R.K R.ca w b v d) : decide (v = .non) = isNonD d := by
  cases r <;> simp [isNonD]
theorem o_isN : OpP X R (compareOp .Is) pIsN := by
  intro pins s σ Γ M T w x y vx vy u1 u2 Q I b rx ry r1 r2 o
  obtain rfl : y = .non := by cases y with | non => rfl | _ => exact (show False from o).elim
  cases ry
  refine op_isN pins s σ w.H _ _ u1 u2 Q I r1 r2 ⟨rfl, ?_⟩
  rw [rp_non rx]
  exact OutR.here (a := D.bl (isNonD x)) o b _ (.bl _)
theorem o_notN : OpP X R (compareOp .IsNot) pNotN := by
  intro pins s σ Γ M T w x y vx vy u1 u2 Q I b rx ry r1 r2 o
  obtain rfl : y = .non := by cases y with | non => rfl | _ => exact (show False from o).elim
  cases ry
  refine op_notN pins s σ w.H _ _ u1 u2 Q I r1 r2 ⟨rfl, ?_⟩
  rw [rp_non rx]
  exact OutR.here (a := D.bl (!isNonD x)) o b _ (.bl _)
/-- -i -/
theorem e_neg {a : Expr} {ia : Ex} {pos : Pos} {z : Bool} (ha : PE X a (tE R true ia)) : PE X (.UnaryOp .USub a pos) (tE R z (.app pNeg (.cons ia .nil))) :=
  PE.up <| PEmono (pe_un un_neg ha) fun σ H Q ⟨w, Γ, M, T, hw, sr, o⟩ => by
    subst hw
    have o : OutR R σ Γ T w (bnd (bnd (ev ia Γ M) fun d M => bnd (.ok [] M) fun ds M => .ok (d :: ds) M) pNeg) _ := o
    have o' : OutR R σ Γ T w (bnd (ev ia Γ M) fun x M => pNeg [x] M) fun d _ w' => ∀ v, Rp R.K R.ca w' false v d → Q v w'.H := by
      revert o
      cases ev ia Γ M <;> exact id
    refine ⟨w, Γ, M, T, rfl, sr, o'.bnd.imp fun d M1 w1 e1 b1 o1 v r => ?_⟩
    obtain ⟨i, rfl⟩ : ∃ i, d = .int i := by
      cases d with
      | int j => exact ⟨j, rfl⟩
      | _ => exact (show False from o1).elim
    cases r
    exact ⟨i, rfl, OutR.here (a := D.int (-i)) o1 b1 _ (.int _)⟩
end
end Pk

set_option Elab.async false
set_option linter.all false
set_option autoImplicit false
set_option maxRecDepth 100000
set_option maxHeartbeats 1000000
/-! Sound10: built-ins. -/
namespace Pk
open PySem PySem.Spec PyProof.Rows L2

section
variable {S : Sx} {k : Nat} {ca : String → Addr} {X : Cx} {R : Rd0} {tb : Tab} {F : Fn} {x : Str} {p pos : Pos} {e : Expr} {es : List Expr} {irs : Exs} {z : Bool} {id T : String}
/-- a built-in by what IR says -/
def CallPb (q : Bool) (X : Cx) (R : Rd0) (f : Value) (F : Fn) : Prop :=
  ∀ (pins : List (Addr × Obj)) (s : Shared) (σ : L2.St) (Γ : Env) (M : Mem) (T : List Addr) (w : Wd) (ds : List D) (vs : List V) (us : List Value) (Q : VK), Inv X pins σ w.H s → Bears R w σ Γ M T → RpB R.K R.ca w q vs ds → Vals vs us →
    OutR R σ Γ T w (F ds M) (fun d _ w' => ∀ v, Rp R.K R.ca w' false v d → Q v w'.H) → wpAny (model X.prog X.w) X.A (call f us) (EP X pins σ Q) X.xe s
abbrev CallP (X : Cx) (R : Rd0) (f : Value) (F : Fn) : Prop := CallPb true X R f F
theorem args_go {q : Bool} {σ : L2.St} {H : Hp} {Q : VK} (h : tE R false (.app F irs) σ H Q) : tA R q irs σ H fun vs H1 => ∃ w Γ M T ds, w.H = H1 ∧ Bears R w σ Γ M T ∧ RpB R.K R.ca w q vs ds ∧ OutR R σ Γ T w (F ds M) (fun d _ w' => ∀ v, Rp R.K R.ca w' false v d → Q v w'.H) := by
  obtain ⟨w, Γ, M, T, hw, sr, o⟩ := h
  subst hw
  have o : OutR R σ Γ T w (bnd (evs irs Γ M) F) _ := o
  exact ⟨w, Γ, M, T, rfl, sr, o.bnd.imp fun ds M1 w1 e1 b1 o1 vs rs => ⟨w1, Γ, M1, T, ds, rfl, b1, rs, o1⟩⟩
/-- f(e, ..), f a built-in function -/
theorem e_bi {q : Bool} (B : Bd S k ca X R) (hc : CallPb q X R (.builtin id) F) (hx : okGl S x = true) (hm : X.mg x = none) (hv : bootBuiltins x = some (.builtin id)) (ha : PA X (e :: es) (tA R q irs)) (hs : (e :: es).all noStar = true) :
    PE X (.Call (.Name x p) (e :: es) [] pos) (tE R z (.app F irs)) := PE.up <| by
  refine ⟨fun pins s σ H Q I h => ?_⟩
  obtain ⟨g1, g2, g3⟩ := gl_of B hx
  refine wpAny_Call_Name_kw (ld_blt I g1 hm hv ?_ g3 g2)
  rw [List.all_cons, Bool.and_eq_true] at hs
  refine PyProof.Rows.callWith_builtin1 (thn (ha.run pos pins s σ H _ I (args_go h)) fun us s1 ⟨vs, H1, I1, r1, w, Γ, M, T, ds, hw, sr, rs, o⟩ => ?_) (star_cons hs.1) (star_any hs.2)
  subst hw
  exact hc pins s1 σ Γ M T w ds vs us Q I1 sr rs r1 o
/-- T(e, ..), T a built-in type -/
theorem e_ty {q : Bool} (B : Bd S k ca X R) (hc : CallPb q X R (.type T) F) (hx : okGl S x = true) (hm : X.mg x = none) (hv : bootBuiltins x = some (.type T)) (ha : PA X (e :: es) (tA R q irs)) (hs : (e :: es).all noStar = true) :
    PE X (.Call (.Name x p) (e :: es) [] pos) (tE R z (.app F irs)) := PE.up <| by
  refine ⟨fun pins s σ H Q I h => ?_⟩
  obtain ⟨g1, g2, g3⟩ := gl_of B hx
  refine wpAny_Call_Name_kw (ld_blt I g1 hm hv ?_ g3 g2)
  rw [List.all_cons, Bool.and_eq_true] at hs
  refine PyProof.Rows.callWith_type1 (thn (ha.run pos pins s σ H _ I (args_go h)) fun us s1 ⟨vs, H1, I1, r1, w, Γ, M, T, ds, hw, sr, rs, o⟩ => ?_) (star_cons hs.1) (star_any hs.2)
  subst hw
  exact hc pins s1 σ Γ M T w ds vs us Q I1 sr rs r1 o
/-- one argument that is a list or tuple -/
theorem rp_seq {w : Wd} {b : Bool} {v : V} {xs : List D} (r : Rp R.K R.ca w b v (.lst xs)) : ∃ a vs, v = .ref a ∧ w.H a = some (.lst vs) ∧ RpAll R.K R.ca w vs xs := by
  cases r with
  | lst h _ _ ra => exact ⟨_, _, rfl, h, ra⟩
theorem rp_tup {w : Wd} {b : Bool} {v : V} {xs : List D} (r : Rp R.K R.ca w b v (.tup xs)) : ∃ a vs, v = .ref a ∧ SqT R.K w.H a vs ∧ RpAll R.K R.ca w vs xs := by
  cases r with
  | tup h ra => exact ⟨_, _, rfl, h.sq, ra⟩
/-- len -/
theorem b_lenq {q : Bool} (hd : ∀ (c : String) (F : Fn), tb c "__len__" = some F → ∀ (pins : List (Addr × Obj)) (s : Shared) (σ : L2.St) (Γ : Env) (M : Mem) (T : List Addr) (w : Wd) (ns : List String) (ds : List D) (v : V) (u : Value) (Q : VK), Inv X pins σ w.H s → Bears R w σ Γ M T →
      Rp R.K R.ca w q v (.ins c ns ds) → RelV v u → OutR R σ Γ T w (F [.ins c ns ds] M) (fun d _ w' => ∀ v, Rp R.K R.ca w' false v d → Q v w'.H) → wpAny (model X.prog X.w) X.A (call (.builtin "len") [u]) (EP X pins σ Q) X.xe s) (B : Bd S k ca X R) : CallPb q X R (.builtin "len") (pLen tb) := by
  intro pins s σ Γ M T w ds vs us Q I b rs r o
  have hz : sizeLine = 16777216 := sizeLine_eq
  match ds, rs, o with
  | [], _, o => exact (show False from o).elim
  | x :: y :: t, _, o => exact (show False from (by cases x <;> exact o)).elim
  | [x], rs, o =>
    obtain ⟨v, rfl, rx⟩ := rs.one
    cases x with
    | lst xs =>
      obtain ⟨a, vs, rfl, h, ra⟩ := rp_seq rx
      refine call_len pins s σ w.H _ us Q I r ⟨_, vs.length, rfl, .inl ⟨vs, .of h, rfl⟩, ?_⟩
      rw [ra.length]; exact OutR.here (a := D.int xs.length) o b _ (.int _)
    | tup xs =>
      obtain ⟨a, vs, rfl, h, ra⟩ := rp_tup rx
      refine call_len pins s σ w.H _ us Q I r ⟨_, vs.length, rfl, .inr ⟨vs, B.RK ▸ h, rfl⟩, ?_⟩
      rw [ra.length]; exact OutR.here (a := D.int xs.length) o b _ (.int _)
    | str cs =>
      cases rx
      have o : OutR R σ Γ T w (if cs.length ≤ lim then Res.ok (D.int cs.length) M else Res.stuck) _ := o
      by_cases c : cs.length ≤ lim
      · rw [if_pos c] at o
        refine call_len pins s σ w.H _ us Q I r ⟨_, (sof cs).length, rfl, ⟨by rw [sof_len, hz]; unfold lim at c; omega, rfl⟩, ?_⟩
        rw [sof_len]; exact OutR.here (a := D.int cs.length) o b _ (.int _)
      · rw [if_neg c] at o; exact o.elim
    | dict ks es =>
      obtain ⟨u, rfl, ru⟩ := vals1 r
      obtain ⟨a, kvs, rfl, hrd, hl⟩ : ∃ a kvs, v = .ref a ∧ Rd w.H a (.dK kvs) ∧ kvs.length = ks.length := by
        cases rx with
        | dK h _ kk _ => exact ⟨_, _, rfl, .inr ⟨_, h⟩, by have := Paired.length kk; simpa using this⟩
        | dO h _ kk _ => exact ⟨_, _, rfl, .inl h, by have := Paired.length kk; simpa using this⟩
      cases ru
      refine d_len I hrd fun t s' I' => ⟨.int kvs.length, w.H, I', ⟨t, rfl⟩, ?_⟩
      rw [hl]; exact OutR.here (a := D.int ks.length) o b _ (.int _)
    | scr xs =>
      cases rx with
      | scr h ra =>
      have h : SqL X.K w.H _ _ := B.RK ▸ h.sq
      refine call_len pins s σ w.H _ us Q I r ⟨_, _, rfl, .inl ⟨_, h, rfl⟩, ?_⟩
      rw [ra.length]; exact OutR.here (a := D.int xs.length) o b _ (.int _)
    | ins c ns es =>
      have o : OutR R σ Γ T w (match tb c "__len__" with
        | some F => F [.ins c ns es] M
        | none => .stuck) _ := o
      cases q : tb c "__len__" with
      | none => rw [q] at o; exact o.elim
      | some F =>
        rw [q] at o
        obtain ⟨u, rfl, ru⟩ := vals1 r
        exact hd c F q pins s σ Γ M T w ns es v u Q I b rx ru o
    | _ => exact (show False from o).elim
/-- isinstance(x, T): the class is passed as a value that IR does not see -/
def clsTA (R : Rd0) (c : V) (irs : Exs) : TA := fun σ H Q => ∃ w Γ M T, w.H = H ∧ Bears R w σ Γ M T ∧
  OutR R σ Γ T w (evs irs Γ M) fun ds _ w' => ∀ vs, RpB R.K R.ca w' true vs ds → Q (vs ++ [c]) w'.H
theorem isi_ty {w : Wd} {b : Bool} {v : V} {d : D} {T : String} {t : Bool} (B : Bd S k ca X R) (r : Rp R.K R.ca w b v d) (h : isB T d = some t)
    (hk : PySem.W.kitOne X.K (.type "NoneType") (.type T) = some false ∧ PySem.W.kitOne X.K (.type "bool") (.type T) = some (T == "bool" || T == "int") ∧ PySem.W.kitOne X.K (.type "int") (.type T) = some (T == "int") ∧
      PySem.W.kitOne X.K (.type "str") (.type T) = some (T == "str") ∧ PySem.W.kitOne X.K (.type "tuple") (.type T) = some (T == "tuple") ∧ PySem.W.kitOne X.K (.type "list") (.type T) = some (T == "list") ∧ PySem.W.kitOne X.K (.type "dict") (.type T) = some (T == "dict")) :
    ∃ ty, TyX X.K w.H v ty ∧ PySem.W.kitOne X.K ty (.type T) = some t := by
  obtain ⟨h1, h2, h3, h4, h5, h6, h7⟩ := hk
  cases r with
  | non => cases h; exact ⟨_, .base .non, h1⟩
  | bl _ => cases h; exact ⟨_, .base (.bl _), h2⟩
  | int _ => cases h; exact ⟨_, .base (.int _), h3⟩
  | str _ => cases h; exact ⟨_, .base (.str _), h4⟩
  | lst e _ _ _ => cases h; exact ⟨_, .base (.lst e), h6⟩
  | tup e _ =>
    cases h
    rcases e with ⟨e, _⟩ | ⟨o, its, n, e1, e2, _⟩
    · exact ⟨_, .base (.tup e), h5⟩
    · exact ⟨_, .kTuple (B.RK ▸ e1) e2, h5⟩
  | dK e _ _ _ => cases h; exact ⟨_, .fDict e, h7⟩
  | dO e _ _ _ => cases h; exact ⟨_, .base (.dK e), h7⟩
  | scr _ _ => cases h
  | cls _ => cases h
  | ins _ _ _ _ _ => cases h
  | ref _ => cases h
/-- one operand alone -/
theorem a1e {σ : L2.St} {Γ : Env} {T : List Addr} {w : Wd} {M : Mem} {a : Ex} {Q : D → Mem → Wd → Prop} (o : OutR R σ Γ T w (ev (.app F (.cons a .nil)) Γ M) Q) : OutR R σ Γ T w (ev a Γ M) fun x M1 w1 => OutR R σ Γ T w1 (F [x] M1) Q := by
  have o : OutR R σ Γ T w (bnd (bnd (ev a Γ M) fun d M => bnd (.ok [] M) fun ds M => .ok (d :: ds) M) F) Q := o
  refine OutR.bnd (f := fun x M => F [x] M) ?_
  revert o
  cases ev a Γ M <;> exact id
/-- isinstance(x, T), T a built-in class -/
theorem e_isi {e : Expr} {ie : Ex} {pc : Pos} (B : Bd S k ca X R) (he : PE X e (tE R true ie)) (hx : okGl S "isinstance" = true) (hm : X.mg "isinstance" = none) {T : Str} (t : String) (hT : okGl S T = true) (hmT : X.mg T = none) (hv : bootBuiltins T = some (.type t))
    (hi : bootBuiltins "isinstance" = some (.builtin "isinstance")) (hs : noStar e = true)
    (hk : PySem.W.kitOne X.K (.type "NoneType") (.type t) = some false ∧ PySem.W.kitOne X.K (.type "bool") (.type t) = some (t == "bool" || t == "int") ∧ PySem.W.kitOne X.K (.type "int") (.type t) = some (t == "int") ∧
      PySem.W.kitOne X.K (.type "str") (.type t) = some (t == "str") ∧ PySem.W.kitOne X.K (.type "tuple") (.type t) = some (t == "tuple") ∧ PySem.W.kitOne X.K (.type "list") (.type t) = some (t == "list") ∧ PySem.W.kitOne X.K (.type "dict") (.type t) = some (t == "dict")) :
    PE X (.Call (.Name "isinstance" p) [e, .Name T pc] [] pos) (tE R z (.app (pIsinst t) (.cons ie .nil))) := by
  obtain ⟨g1, g2, g3⟩ := gl_of B hx
  obtain ⟨q1, q2, q3⟩ := gl_of B hT
  refine PE.up <| PEmono (pe_callB call_isi g1 hm hi (pa_cons he (pa_cons (pe_bltn (v := .ty t) q1 hmT hv rfl q3 q2) pa_nil (star_cons rfl)) (star_cons hs)) g3 g2 (star_cons hs) (by rw [star_cons (es := []) (e := .Name T pc) rfl]; rfl)) fun σ H Q ⟨w, Γ, M, T', hw, sr, o⟩ => ?_
  subst hw
  refine ⟨w, Γ, M, T', rfl, sr, (a1e o).imp fun d M1 w1 e1 b1 o1 v r => ?_⟩
  have o1 : OutR R σ Γ T' w1 (optB (isB t d) M1) _ := o1
  cases q : isB t d with
  | none => rw [q] at o1; exact o1.elim
  | some c =>
    rw [q] at o1
    obtain ⟨ty, h1, h2⟩ := isi_ty B r q hk
    exact ⟨v, .ty t, ty, .type t, c, rfl, .ty t, h1, h2, OutR.here (a := D.bl c) o1 b1 _ (.bl c)⟩
/-- what isinstance asks of an own class -/
structure ClsI (K : PySem.W.Frag) (C : Addr) : Prop where
  cl : Cls K C
  ha : PySem.W.findIn K (.ref C) "__class__" = some (some (.builtin "object.__class__"))
  hn : PySem.W.specialIn K (.builtin "object.__class__") "__get__" = some (some (.builtin "getset_descriptor.__get__"))
  htk : PySem.W.takesIn K (.builtin "object.__class__") = some true
  hm : PySem.W.mroIn K C (.type "object") = some true
/-- no built-in class is or stands under it -/
structure NotB (K : PySem.W.Frag) (C : Addr) : Prop where
  n1 : PySem.W.kitOne K (.type "NoneType") (.ref C) = some false
  n2 : PySem.W.kitOne K (.type "bool") (.ref C) = some false
  n3 : PySem.W.kitOne K (.type "int") (.ref C) = some false
  n4 : PySem.W.kitOne K (.type "str") (.ref C) = some false
  n5 : PySem.W.kitOne K (.type "tuple") (.ref C) = some false
  n6 : PySem.W.kitOne K (.type "list") (.ref C) = some false
  n7 : PySem.W.kitOne K (.type "dict") (.ref C) = some false
/-- isinstance(x, C), C an own class -/
theorem e_isiOwn {e : Expr} {ie : Ex} {pc : Pos} {C : Addr} {T : Str} {sub : String → Option Bool} (B : Bd S k ca X R) (he : PE X e (tE R true ie)) (hx : okGl S "isinstance" = true) (hm : X.mg "isinstance" = none) (hT : okGl S T = true) (hmT : X.mg T = some (.ref C))
    (hi : bootBuiltins "isinstance" = some (.builtin "isinstance")) (hs : noStar e = true) (nb : NotB X.K C)
    (hc : ∀ c b, sub c = some b → ClsI X.K (ca c) ∧ PySem.W.kitOne X.K (.ref (ca c)) (.ref C) = some b) :
    PE X (.Call (.Name "isinstance" p) [e, .Name T pc] [] pos) (tE R z (.app (pIsOwn sub) (.cons ie .nil))) := by
  obtain ⟨g1, g2, g3⟩ := gl_of B hx
  obtain ⟨q1, q2, q3⟩ := gl_of B hT
  refine PE.up <| PEmono (pe_callB call_isi g1 hm hi (pa_cons he (pa_cons (pe_glob (v := .ref C) q1 hmT rfl q2) pa_nil (star_cons rfl)) (star_cons hs)) g3 g2 (star_cons hs) (by rw [star_cons (es := []) (e := .Name T pc) rfl]; rfl)) fun σ H Q ⟨w, Γ, M, T', hw, sr, o⟩ => ?_
  subst hw
  refine ⟨w, Γ, M, T', rfl, sr, (a1e o).imp fun d M1 w1 e1 b1 o1 v r => ?_⟩
  have o1 : OutR R σ Γ T' w1 (match d with
    | .ins c _ _ => optB (sub c) M1
    | .ref _ => .stuck
    | .scr _ => .stuck
    | .cls _ => .stuck
    | _ => .ok (.bl false) M1) _ := o1
  have fin : ∀ {ty : Value}, TyX X.K w1.H v ty → PySem.W.kitOne X.K ty (.ref C) = some false → OutR R σ Γ T' w1 (.ok (D.bl false) M1) (fun d _ w' => ∀ v, Rp R.K R.ca w' false v d → Q v w'.H) → rIsi X.K [v, .ref C] w1.H Q := fun h1 h2 o1 =>
    ⟨v, .ref C, _, .ref C, false, rfl, .own C, h1, h2, OutR.here (a := D.bl false) o1 b1 _ (.bl false)⟩
  cases r with
  | non => exact fin (.base .non) nb.n1 o1
  | bl _ => exact fin (.base (.bl _)) nb.n2 o1
  | int _ => exact fin (.base (.int _)) nb.n3 o1
  | str _ => exact fin (.base (.str _)) nb.n4 o1
  | lst e _ _ _ => exact fin (.base (.lst e)) nb.n6 o1
  | tup e _ =>
    rcases e with ⟨e, _⟩ | ⟨o, its, n, e1, e2, _⟩
    · exact fin (.base (.tup e)) nb.n5 o1
    · exact fin (.kTuple (B.RK ▸ e1) e2) nb.n5 o1
  | dK e _ _ _ => exact fin (.fDict e) nb.n7 o1
  | dO e _ _ _ => exact fin (.base (.dK e)) nb.n7 o1
  | scr _ _ => exact o1.elim
  | cls _ => exact o1.elim
  | ref _ => exact o1.elim
  | @ins _ _ c dx fs ns ds e _ _ _ _ =>
    have o1 : OutR R σ Γ T' w1 (optB (sub c) M1) (fun d _ w' => ∀ v, Rp R.K R.ca w' false v d → Q v w'.H) := o1
    cases q : sub c with
    | none => rw [q] at o1; exact o1.elim
    | some t =>
      rw [q] at o1
      obtain ⟨ci, hk⟩ := hc c t q
      rw [B.Rca] at e
      exact ⟨_, .ref C, _, .ref C, t, rfl, .own C, .base (.ins e ci.cl ci.ha ci.hn ci.htk ci.hm), hk, OutR.here (a := D.bl t) o1 b1 _ (.bl t)⟩

/-! ### numbers -/
theorem one_arg' {w : Wd} {b : Bool} {ds : List D} {vs : List V} (r : RpB R.K R.ca w b vs ds) {d : D} (h : ds = [d]) : ∃ v, vs = [v] ∧ Rp R.K R.ca w b v d := by subst h; exact r.one
theorem b_int : CallP X R (.type "int") pInt := by
  intro pins s σ Γ M T w ds vs us Q I b rs r o
  by_cases hk : (∃ i, ds = [.int i]) ∨ ∃ c, ds = [.bl c]
  · rcases hk with ⟨i, rfl⟩ | ⟨c, rfl⟩
    · obtain ⟨v, rfl, rx⟩ := rs.one
      cases rx
      exact call_int1 pins s σ w.H _ us Q I r (.inl ⟨i, rfl, OutR.here (a := D.int i) o b _ (.int _)⟩)
    · obtain ⟨v, rfl, rx⟩ := rs.one
      cases rx
      exact call_int1 pins s σ w.H _ us Q I r (.inr ⟨c, rfl, OutR.here (a := D.int (if c then 1 else 0)) o b _ (.int _)⟩)
  · exfalso
    revert o
    unfold pInt
    split
    · exact (hk (.inl ⟨_, rfl⟩)).elim
    · exact (hk (.inr ⟨_, rfl⟩)).elim
    · exact id
theorem b_abs : CallP X R (.builtin "abs") pAbs := by
  intro pins s σ Γ M T w ds vs us Q I b rs r o
  by_cases hk : ∃ i, ds = [.int i]
  · obtain ⟨i, rfl⟩ := hk
    obtain ⟨v, rfl, rx⟩ := rs.one
    cases rx
    exact call_abs pins s σ w.H _ us Q I r ⟨i, rfl, OutR.here (a := D.int (if i < 0 then -i else i)) o b _ (.int _)⟩
  · exfalso
    revert o
    unfold pAbs
    split
    · exact (hk ⟨_, rfl⟩).elim
    · exact id
theorem divp_small {i j : Int} (h0 : 0 < j) (h : j.toNat < 2 ^ 256) : CDivP i j := by
  refine ⟨h0, ?_⟩
  have hj : j.natAbs < 2 ^ 256 := by omega
  have hl : j.natAbs.log2 < 256 := (Nat.log2_lt (by omega)).mpr hj
  show (decide ((if j == 0 then 0 else j.natAbs.log2 / 30 + 1) > 300) && _) = false
  have e : ¬ ((if j == 0 then 0 else j.natAbs.log2 / 30 + 1) > 300) := by split <;> omega
  rw [decide_eq_false e]; rfl
theorem b_divmod : CallP X R (.builtin "divmod") pDivmod := by
  intro pins s σ Γ M T w ds vs us Q I b rs r o
  by_cases hk : ∃ i j, ds = [.int i, .int j]
  · obtain ⟨i, j, rfl⟩ := hk
    obtain ⟨v, u, rfl, rx, ry⟩ := rs.two
    cases rx; cases ry
    have o : OutR R σ Γ T w (if 0 < j ∧ j.toNat < 2 ^ 256 then Res.ok (D.tup [.int (i / j), .int (i % j)]) M else Res.stuck) _ := o
    by_cases c : 0 < j ∧ j.toNat < 2 ^ 256
    · rw [if_pos c] at o
      refine call_divmodW pins s σ w.H _ us Q I r ⟨i, j, rfl, divp_small c.1 c.2, fun p hp => OutR.new o b hp _ (new_tup b hp (.cons (.int _) (.cons (.int _) .nil)))⟩
    · rw [if_neg c] at o; exact o.elim
  · exfalso
    revert o
    unfold pDivmod
    split
    · exact (hk ⟨_, _, rfl⟩).elim
    · exact id
theorem rp_ints {w : Wd} : ∀ {vs : List V} {ds : List D} {is : List Int}, RpAll R.K R.ca w vs ds → Pk.intsL ds = some is → vs = is.map V.int
  | _, _, is, .nil, h => by cases h; rfl
  | _, _, is, .cons (d := d) r rr, h => by
    cases d <;> first | (exfalso; simp [Pk.intsL] at h; done) | skip
    rename_i i
    unfold Pk.intsL at h
    split at h
    · cases h
      cases r
      rw [List.map_cons, rp_ints rr (by assumption)]
    · cases h
theorem rp_bls {w : Wd} : ∀ {vs : List V} {ds : List D} {is : List Bool}, RpAll R.K R.ca w vs ds → bls ds = some is → vs = is.map V.bl
  | _, _, is, .nil, h => by cases h; rfl
  | _, _, is, .cons (d := d) r rr, h => by
    cases d <;> first | (exfalso; simp [bls] at h; done) | skip
    rename_i i
    unfold bls at h
    split at h
    · cases h
      cases r
      rw [List.map_cons, rp_bls rr (by assumption)]
    · cases h
theorem b_any (B : Bd S k ca X R) : CallP X R (.builtin "any") pAny := by
  intro pins s σ Γ M T w ds vs us Q I b rs r o
  by_cases hk : ∃ xs, ds = [.lst xs]
  · obtain ⟨xs, rfl⟩ := hk
    obtain ⟨v, rfl, rx⟩ := rs.one
    obtain ⟨a, vs, rfl, h, ra⟩ := rp_seq rx
    have o : OutR R σ Γ T w (match bls xs with
      | some bs => Res.ok (D.bl (bs.any id)) M
      | none => Res.stuck) _ := o
    cases q : bls xs with
    | none => rw [q] at o; exact o.elim
    | some bs =>
      rw [q] at o
      have e := rp_bls ra q
      subst e
      exact cr_any B.calm pins s σ w.H _ us Q I r ⟨a, bs, rfl, .of h, OutR.here o b _ (.bl _)⟩
  · exfalso
    revert o
    unfold pAny
    split
    · exact (hk ⟨_, rfl⟩).elim
    · exact id
theorem b_all (B : Bd S k ca X R) : CallP X R (.builtin "all") pAll := by
  intro pins s σ Γ M T w ds vs us Q I b rs r o
  by_cases hk : ∃ xs, ds = [.lst xs]
  · obtain ⟨xs, rfl⟩ := hk
    obtain ⟨v, rfl, rx⟩ := rs.one
    obtain ⟨a, vs, rfl, h, ra⟩ := rp_seq rx
    have o : OutR R σ Γ T w (match bls xs with
      | some bs => Res.ok (D.bl (bs.all id)) M
      | none => Res.stuck) _ := o
    cases q : bls xs with
    | none => rw [q] at o; exact o.elim
    | some bs =>
      rw [q] at o
      have e := rp_bls ra q
      subst e
      exact cr_all B.calm pins s σ w.H _ us Q I r ⟨a, bs, rfl, .of h, OutR.here o b _ (.bl _)⟩
  · exfalso
    revert o
    unfold pAll
    split
    · exact (hk ⟨_, rfl⟩).elim
    · exact id
theorem insSort_perm (x : Int) : ∀ xs : List Int, (insSort x xs).Perm (x :: xs)
  | [] => .refl _
  | y :: ys => by
    unfold insSort
    split
    · exact .refl _
    · exact ((insSort_perm x ys).cons y).trans (.swap x y ys)
theorem sortI_perm : ∀ xs : List Int, (sortI xs).Perm xs
  | [] => .refl _
  | x :: xs => (insSort_perm x _).trans ((sortI_perm xs).cons x)
theorem insSort_sorted {x : Int} : ∀ {xs : List Int}, xs.Pairwise (· ≤ ·) → (insSort x xs).Pairwise (· ≤ ·)
  | [], _ => List.pairwise_singleton ..
  | y :: ys, h => by
    unfold insSort
    split
    · rename_i c
      refine List.pairwise_cons.mpr ⟨fun z hz => ?_, h⟩
      rcases List.mem_cons.mp hz with e | e
      · subst e; exact c
      · exact Int.le_trans c ((List.pairwise_cons.mp h).1 z e)
    · rename_i c
      refine List.pairwise_cons.mpr ⟨fun z hz => ?_, insSort_sorted (List.pairwise_cons.mp h).2⟩
      rcases List.mem_cons.mp ((insSort_perm x ys).mem_iff.mp hz) with e | e
      · subst e; omega
      · exact (List.pairwise_cons.mp h).1 z e
theorem sortI_sorted : ∀ xs : List Int, (sortI xs).Pairwise (· ≤ ·)
  | [] => .nil
  | x :: xs => insSort_sorted (sortI_sorted xs)
/-- what is sorted is one list alone -/
theorem sorted_one : ∀ {xs ys : List Int}, xs.Perm ys → xs.Pairwise (· ≤ ·) → ys.Pairwise (· ≤ ·) → xs = ys
  | [], ys, p, _, _ => (List.nil_perm.mp p).symm
  | x :: xs, [], p, _, _ => absurd p.length_eq (by simp)
  | x :: xs, y :: ys, p, hx, hy => by
    have e : x = y := by
      have h1 : y ∈ x :: xs := p.mem_iff.mpr List.mem_cons_self
      have h2 : x ∈ y :: ys := p.mem_iff.mp List.mem_cons_self
      have a1 : x ≤ y := by
        rcases List.mem_cons.mp h1 with h | h
        · omega
        · exact (List.pairwise_cons.mp hx).1 y h
      have a2 : y ≤ x := by
        rcases List.mem_cons.mp h2 with h | h
        · omega
        · exact (List.pairwise_cons.mp hy).1 x h
      omega
    subst e
    rw [sorted_one ((List.perm_cons x).mp p) (List.pairwise_cons.mp hx).2 (List.pairwise_cons.mp hy).2]
theorem all_ints {w : Wd} : ∀ is : List Int, RpAll R.K R.ca w (is.map V.int) (is.map D.int)
  | [] => .nil
  | i :: is => .cons (.int i) (all_ints is)
theorem b_sorted : CallP X R (.builtin "sorted") pSorted := by
  intro pins s σ Γ M T w ds vs us Q I b rs r o
  by_cases hk : ∃ xs, ds = [.lst xs]
  · obtain ⟨xs, rfl⟩ := hk
    obtain ⟨v, rfl, rx⟩ := rs.one
    obtain ⟨a, vs, rfl, h, ra⟩ := rp_seq rx
    have o : OutR R σ Γ T w (match Pk.intsL xs with
      | some is => if is.length ≤ 10000 then Res.ok (D.lst ((sortI is).map D.int)) M else Res.stuck
      | none => Res.stuck) _ := o
    cases q : Pk.intsL xs with
    | none => rw [q] at o; exact o.elim
    | some is =>
      rw [q] at o
      have e := rp_ints ra q
      subst e
      have o : OutR R σ Γ T w (if is.length ≤ 10000 then Res.ok (D.lst ((sortI is).map D.int)) M else Res.stuck) _ := o
      by_cases c : is.length ≤ 10000
      · rw [if_pos c] at o
        refine cr_sortedI pins s σ w.H _ us Q I r ⟨a, is, rfl, .of h, fun ns' p hp hs hn => ?_⟩
        have : ns' = sortI is := sorted_one (hp.trans (sortI_perm is).symm) hs (sortI_sorted is)
        subst this
        exact OutR.new o b hn _ (new_lst b hn (all_ints _))
      · rw [if_neg c] at o; exact o.elim
  · exfalso
    revert o
    unfold pSorted
    split
    · exact (hk ⟨_, rfl⟩).elim
    · exact id
theorem b_sum (B : Bd S k ca X R) : CallP X R (.builtin "sum") pSum := by
  intro pins s σ Γ M T w ds vs us Q I b rs r o
  by_cases hk : ∃ xs, ds = [.lst xs]
  · obtain ⟨xs, rfl⟩ := hk
    obtain ⟨v, rfl, rx⟩ := rs.one
    obtain ⟨a, vs, rfl, h, ra⟩ := rp_seq rx
    have o : OutR R σ Γ T w (match Pk.intsL xs with
      | some is => Res.ok (D.int is.sum) M
      | none => Res.stuck) _ := o
    cases q : Pk.intsL xs with
    | none => rw [q] at o; exact o.elim
    | some is =>
      rw [q] at o
      have e := rp_ints ra q
      subst e
      exact cr_sum B.calm pins s σ w.H _ us Q I r ⟨a, is, rfl, .of h, OutR.here (a := D.int is.sum) o b _ (.int _)⟩
  · exfalso
    revert o
    unfold pSum
    split
    · exact (hk ⟨_, rfl⟩).elim
    · exact id
/-- list(x) -/
theorem b_list (B : Bd S k ca X R) : CallP X R (.type "list") pList := by
  intro pins s σ Γ M T w ds vs us Q I b rs r o
  by_cases hk : (∃ xs, ds = [.lst xs]) ∨ ∃ xs, ds = [.tup xs]
  · rcases hk with ⟨xs, rfl⟩ | ⟨xs, rfl⟩
    · obtain ⟨v, rfl, rx⟩ := rs.one
      obtain ⟨a, vs, rfl, h, ra⟩ := rp_seq rx
      exact call_list_of pins s σ w.H _ us Q I r ⟨a, vs, rfl, .inl (.of h), fun p hp => OutR.new (d := D.lst xs) o b hp _ (new_lst b hp ra)⟩
    · obtain ⟨v, rfl, rx⟩ := rs.one
      obtain ⟨a, vs, rfl, h, ra⟩ := rp_tup rx
      exact call_list_of pins s σ w.H _ us Q I r ⟨a, vs, rfl, .inr (B.RK ▸ h), fun p hp => OutR.new (d := D.lst xs) o b hp _ (new_lst b hp ra)⟩
  · exfalso
    revert o
    unfold pList
    split
    · exact (hk (.inl ⟨_, rfl⟩)).elim
    · exact (hk (.inr ⟨_, rfl⟩)).elim
    · exact id
/-- tuple(x) -/
theorem b_tuple (B : Bd S k ca X R) : CallP X R (.type "tuple") pTuple := by
  intro pins s σ Γ M T w ds vs us Q I b rs r o
  by_cases hk : (∃ xs, ds = [.lst xs]) ∨ ∃ xs, ds = [.tup xs]
  · rcases hk with ⟨xs, rfl⟩ | ⟨xs, rfl⟩
    · obtain ⟨v, rfl, rx⟩ := rs.one
      obtain ⟨a, vs, rfl, h, ra⟩ := rp_seq rx
      exact call_tuple_of pins s σ w.H _ us Q I r ⟨a, vs, rfl, .inl ⟨.of h, fun p hp => OutR.new (d := D.tup xs) o b hp _ (new_tup b hp ra)⟩⟩
    · obtain ⟨v, rfl, rx⟩ := rs.one
      cases rx with
      | tup h ra => exact call_tuple_of pins s σ w.H _ us Q I r ⟨_, _, rfl, .inr ⟨B.RK ▸ h.sq, OutR.here (a := D.tup xs) o b _ (.tup h ra)⟩⟩
  · exfalso
    revert o
    unfold pTuple
    split
    · exact (hk (.inl ⟨_, rfl⟩)).elim
    · exact (hk (.inr ⟨_, rfl⟩)).elim
    · exact id
end
end Pk

set_option Elab.async false
set_option linter.all false
set_option autoImplicit false
set_option maxRecDepth 100000
set_option maxHeartbeats 1000000
/-! Sound11: displays, subscripts, slices, texts, repr. -/
namespace Pk
open PySem PySem.Spec PyProof.Rows L2

section
variable {S : Sx} {k : Nat} {ca : String → Addr} {X : Cx} {R : Rd0} {tb : Tab} {F : Fn} {x : Str} {p pos : Pos} {e a b : Expr} {es : List Expr} {ia ib : Ex} {irs : Exs} {z : Bool} {id T : String}
/-! ### displays -/
theorem app_evs {σ : L2.St} {Γ : Env} {T : List Addr} {w : Wd} {M : Mem} {Q : D → Mem → Wd → Prop} (o : OutR R σ Γ T w (ev (.app F irs) Γ M) Q) : OutR R σ Γ T w (evs irs Γ M) fun ds M1 w1 => ds.length = irs.len ∧ OutR R σ Γ T w1 (F ds M1) Q :=
  OutR.len (OutR.bnd (r := evs irs Γ M) (f := F) o)
theorem e_tup {n : Nat} (ha : PA X es (tA R false irs)) (hl : irs.len ≤ 1000) : PE X (.Tuple es n pos) (tE R z (.app pTup irs)) :=
  PE.up <| PEmono (pe_tup ha) fun σ H Q ⟨w, Γ, M, T, hw, sr, o⟩ => by
    subst hw
    refine ⟨w, Γ, M, T, rfl, sr, (app_evs o).imp fun ds M1 w1 e1 b1 ⟨hd, o1⟩ vs rs => ⟨?_, fun p hp => ?_⟩⟩
    · rw [rs.length, hd, sizeLine_eq]; omega
    · exact OutR.new (d := D.tup ds) o1 b1 hp _ (new_tup b1 hp rs.down)
theorem e_lst (ha : PA X es (tA R false irs)) (hl : irs.len ≤ 1000) : PE X (.List es pos) (tE R z (.app pLst irs)) :=
  PE.up <| PEmono (pe_lst ha) fun σ H Q ⟨w, Γ, M, T, hw, sr, o⟩ => by
    subst hw
    refine ⟨w, Γ, M, T, rfl, sr, (app_evs o).imp fun ds M1 w1 e1 b1 ⟨hd, o1⟩ vs rs => ⟨?_, fun p hp => ?_⟩⟩
    · rw [rs.length, hd, sizeLine_eq]; omega
    · exact OutR.new (d := D.lst ds) o1 b1 hp _ (new_lst b1 hp rs.down)
/-- a list display: a new list -/
theorem f_lst (ha : PA X es (tA R false irs)) (hl : irs.len ≤ 1000) : PE X (.List es pos) (tF R (.app pLst irs)) :=
  PEmono (pe_lst ha) fun σ H Q ⟨w, Γ, M, T, hw, sr, o⟩ => by
    subst hw
    refine ⟨w, Γ, M, T, rfl, sr, (app_evs o).imp fun ds M1 w1 e1 b1 ⟨hd, o1⟩ vs rs => ⟨?_, fun p hp => ?_⟩⟩
    · rw [rs.length, hd, sizeLine_eq]; omega
    · have ex := Ext.own (o := .lst vs) hp
      have o1 : OutR R σ Γ T w1 (.ok (D.lst ds) M1) _ := o1
      have fin := o1 (w1.own p (.lst vs)) ex (b1.push hp).pop
      exact fin p (e1.nn hp) (b1.push hp) ⟨vs, upd_same, rs.down.ext ex⟩
/-- [a, *b, ..] -/
def tAS (R : Rd0) (fl : List Bool) (irs : Exs) : TA := fun σ H Q => ∃ w Γ M T, w.H = H ∧ Bears R w σ Γ M T ∧
  OutR R σ Γ T w (evs irs Γ M) fun ds _ w' => ∃ xs, splice fl ds = some xs ∧ ∀ vs, RpAll R.K R.ca w' vs xs → Q vs w'.H
theorem as_nil : PA X [] (tAS R [] .nil) := PAmono pa_nil fun σ H Q ⟨w, Γ, M, T, hw, sr, o⟩ => by
  subst hw
  obtain ⟨xs, hx, q⟩ := OutR.here (a := ([] : List D)) o sr
  cases hx
  exact q [] .nil
theorem as_one {fl : List Bool} (ha : PE X e (tE R false ia)) (hr : PA X es (tAS R fl irs)) (hs : noStar e = true) : PA X (e :: es) (tAS R (false :: fl) (.cons ia irs)) :=
  PAmono (pa_cons ha hr (star_cons hs)) fun σ H Q ⟨w, Γ, M, T, hw, sr, o⟩ => by
    subst hw
    have o : OutR R σ Γ T w (bnd (ev ia Γ M) fun d M => bnd (evs irs Γ M) fun ds M => .ok (d :: ds) M) _ := o
    refine ⟨w, Γ, M, T, rfl, sr, o.bnd.imp fun d M1 w1 e1 b1 o1 v r => ?_⟩
    refine ⟨w1, Γ, M1, T, rfl, b1, o1.bnd.imp fun ds M2 w2 e2 b2 o2 => ?_⟩
    obtain ⟨xs, hx, q⟩ := OutR.here (a := d :: ds) o2 b2
    have hx : (match splice fl ds with | some xs => some (d :: xs) | none => none) = some xs := hx
    cases h : splice fl ds with
    | none => rw [h] at hx; cases hx
    | some ys =>
      rw [h] at hx
      cases hx
      exact ⟨ys, rfl, fun vs rs => q (v :: vs) (.cons (r.ext e2) rs)⟩
theorem as_star {fl : List Bool} {sp : Pos} (hK : X.K = R.K) (ha : PE X e (tE R true ia)) (hr : PA X es (tAS R fl irs)) : PA X (.Starred e sp :: es) (tAS R (true :: fl) (.cons (.app pSeq (.cons ia .nil)) irs)) :=
  PAmono (StX.pa_star ha hr) fun σ H Q ⟨w, Γ, M, T, hw, sr, o⟩ => by
    subst hw
    have o : OutR R σ Γ T w (bnd (ev (.app pSeq (.cons ia .nil)) Γ M) fun d M => bnd (evs irs Γ M) fun ds M => .ok (d :: ds) M) _ := o
    refine ⟨w, Γ, M, T, rfl, sr, (a1e o.bnd).imp fun d M1 w1 e1 b1 o1 v r => ?_⟩
    have key : ∀ (ys : List D), pSeq [d] M1 = .ok d M1 → (∀ ds, splice (true :: fl) (d :: ds) = match splice fl ds with | some xs => some (ys ++ xs) | none => none) → ∀ (a : Addr) (vs : List V), v = .ref a → (SqT X.K w1.H a vs ∨ SqL X.K w1.H a vs) → RpAll R.K R.ca w1 vs ys →
        ∃ p xs, v = V.ref p ∧ (SqT X.K w1.H p xs ∨ SqL X.K w1.H p xs) ∧ tAS R fl irs σ w1.H fun zs H2 => Q (xs ++ zs) H2 := fun ys hsq hsp a vs hv hq ra => by
      rw [hsq] at o1
      have o1 := OutR.here o1 b1
      refine ⟨a, vs, hv, hq, w1, Γ, M1, T, rfl, b1, o1.bnd.imp fun ds M2 w2 e2 b2 o2 => ?_⟩
      obtain ⟨xs, hx, q⟩ := OutR.here (a := d :: ds) o2 b2
      rw [hsp] at hx
      cases h : splice fl ds with
      | none => rw [h] at hx; cases hx
      | some us =>
        rw [h] at hx
        cases hx
        exact ⟨us, rfl, fun zs rs => q (vs ++ zs) ((ra.ext e2).append rs)⟩
    cases d with
    | lst ys =>
      obtain ⟨a, vs, hv, h, ra⟩ := rp_seq r
      exact key ys rfl (fun _ => rfl) a vs hv (.inr (.of h)) ra
    | tup ys =>
      obtain ⟨a, vs, hv, h, ra⟩ := rp_tup r
      exact key ys rfl (fun _ => rfl) a vs hv (.inl (hK ▸ h)) ra
    | _ => exact (show False from o1).elim
theorem e_lstS {fl : List Bool} (ha : PA X es (tAS R fl irs)) : PE X (.List es pos) (tE R z (.app (pSpl fl) irs)) :=
  PE.up <| PEmono (pe_lst ha) fun σ H Q ⟨w, Γ, M, T, hw, sr, o⟩ => by
    subst hw
    refine ⟨w, Γ, M, T, rfl, sr, (app_evs o).imp fun ds M1 w1 e1 b1 ⟨hd, o1⟩ => ?_⟩
    have o1 : OutR R σ Γ T w1 (match splice fl ds with
      | some xs => if xs.length ≤ lim then Res.ok (D.lst xs) M1 else Res.stuck
      | none => Res.stuck) _ := o1
    cases h : splice fl ds with
    | none => rw [h] at o1; exact o1.elim
    | some xs =>
      rw [h] at o1
      have o1 : OutR R σ Γ T w1 (if xs.length ≤ lim then Res.ok (D.lst xs) M1 else Res.stuck) _ := o1
      by_cases c : xs.length ≤ lim
      · rw [if_pos c] at o1
        refine ⟨xs, rfl, fun vs rs => ⟨by rw [rs.length, sizeLine_eq]; unfold lim at c; omega, fun p hp => OutR.new o1 b1 hp _ (new_lst b1 hp rs)⟩⟩
      · rw [if_neg c] at o1; exact o1.elim
theorem e_tupS {fl : List Bool} {n : Nat} (ha : PA X es (tAS R fl irs)) : PE X (.Tuple es n pos) (tE R z (.app (pSplT fl) irs)) :=
  PE.up <| PEmono (pe_tup ha) fun σ H Q ⟨w, Γ, M, T, hw, sr, o⟩ => by
    subst hw
    refine ⟨w, Γ, M, T, rfl, sr, (app_evs o).imp fun ds M1 w1 e1 b1 ⟨hd, o1⟩ => ?_⟩
    have o1 : OutR R σ Γ T w1 (match splice fl ds with
      | some xs => if xs.length ≤ lim then Res.ok (D.tup xs) M1 else Res.stuck
      | none => Res.stuck) _ := o1
    cases h : splice fl ds with
    | none => rw [h] at o1; exact o1.elim
    | some xs =>
      rw [h] at o1
      have o1 : OutR R σ Γ T w1 (if xs.length ≤ lim then Res.ok (D.tup xs) M1 else Res.stuck) _ := o1
      by_cases c : xs.length ≤ lim
      · rw [if_pos c] at o1
        refine ⟨xs, rfl, fun vs rs => ⟨by rw [rs.length, sizeLine_eq]; unfold lim at c; omega, fun p hp => OutR.new o1 b1 hp _ (new_tup b1 hp rs)⟩⟩
      · rw [if_neg c] at o1; exact o1.elim

/-! ### subscripts -/
theorem atI_eq {α : Type} (xs : List α) (i : Int) : L2.atI xs i = Pk.atI xs i := by
  unfold L2.atI atI
  have e : L2.ixN xs.length i = Pk.ixN xs.length i := rfl
  rw [e]
  cases Pk.ixN xs.length i <;> rfl
theorem atI_rp {w : Wd} {vs : List V} {ds : List D} {i : Int} {d : D} (r : RpAll R.K R.ca w vs ds) (h : atI ds i = some d) : ∃ v, L2.atI vs i = some v ∧ Rp R.K R.ca w false v d := by
  unfold atI at h
  unfold L2.atI
  have e : ∀ n : Nat, L2.ixN n i = Pk.ixN n i := fun n => rfl
  rw [e, r.length]
  cases q : Pk.ixN ds.length i with
  | none => rw [q] at h; cases h
  | some j => rw [q] at h; exact r.get h
theorem dictGet_rp {w : Wd} {kd : D} {k : Key} (hk : RpK k kd) : ∀ {kvs : List (Key × V)} {ks vs : List D} {d : D}, Paired RpK (kvs.map (·.1)) ks → RpAll R.K R.ca w (kvs.map (·.2)) vs → dictGet kd ks vs = some d → ∃ v, valV kvs k = some v ∧ Rp R.K R.ca w false v d
  | [], ks, vs, d, p, r, h => by cases p; cases r; cases h
  | (k', v') :: kvs, ks, vs, d, p, r, h => by
    cases p with
    | cons p1 pp =>
    cases r with
    | cons r1 rr =>
    rename_i kd' ks' d' vs'
    have h : (if keyEq kd' kd then some d' else dictGet kd ks' vs') = some d := h
    have ek : keyEq kd' kd = decide (k' = k) := by
      have p1 : RpK k' kd' := p1
      cases p1 with
      | int i =>
        cases hk with
        | int j => simp [keyEq]
        | str t => simp [keyEq]
      | str s =>
        cases hk with
        | int j => simp [keyEq]
        | str t =>
          have : (sof s = sof t) ↔ s = t := ⟨sof_inj, fun e => by rw [e]⟩
          simp [keyEq, this]
    rw [ek] at h
    unfold valV
    rw [List.find?_cons]
    by_cases c : k' = k
    · rw [if_pos (by simpa using c)] at h
      cases h
      simp only [c, decide_true]
      exact ⟨v', rfl, r1⟩
    · rw [if_neg (by simpa using c)] at h
      simp only [c, decide_false]
      exact dictGet_rp hk pp rr h
theorem key_of {w : Wd} {b : Bool} {v : V} {d : D} (r : Rp R.K R.ca w b v d) (h : isKey d = true) : ∃ k, RpK k d ∧ v = kV k := by
  cases r <;> first | (cases h; done) | skip
  · exact ⟨.inl _, .int _, rfl⟩
  · exact ⟨.inr _, .str _, rfl⟩
theorem rd_of {w : Wd} {b : Bool} {v : V} {ks vs : List D} (r : Rp R.K R.ca w b v (.dict ks vs)) : ∃ a kvs, v = .ref a ∧ Rd w.H a (.dK kvs) ∧ Paired RpK (kvs.map (·.1)) ks ∧ RpAll R.K R.ca w (kvs.map (·.2)) vs := by
  cases r with
  | dK h _ kk rr => exact ⟨_, _, rfl, .inr ⟨_, h⟩, kk, rr⟩
  | dO h _ kk rr => exact ⟨_, _, rfl, .inl h, kk, rr⟩
/-- a[b] -/
theorem o_ix (B : Bd S k ca X R) (hs : PlainIx b) : OpP X R (fun v u => subscriptTail a b v u) pIx := by
  intro pins s σ Γ M T w x y vx vy u1 u2 Q I bb rx ry r1 r2 o
  have hsq := hs u1 u2
  have hz : sizeLine = 16777216 := sizeLine_eq
  have ok : ∀ (d : D) (v : V), OutR R σ Γ T w (.ok d M) (fun d _ w' => ∀ v, Rp R.K R.ca w' false v d → Q v w'.H) → Rp R.K R.ca w false v d → Q v w.H := fun d v o r => OutR.here o bb v r
  cases x with
  | dict ks vs =>
    have o : OutR R σ Γ T w (if isKey y then optD (dictGet y ks vs) M else Res.stuck) (fun d _ w' => ∀ v, Rp R.K R.ca w' false v d → Q v w'.H) := by
      cases y <;> exact o
    by_cases c : isKey y = true
    · rw [if_pos c] at o
      obtain ⟨k, hk, rfl⟩ := key_of ry c
      obtain ⟨a, kvs, rfl, hrd, kk, rr⟩ := rd_of rx
      cases q : dictGet y ks vs with
      | none => rw [q] at o; exact o.elim
      | some d =>
        rw [q] at o
        obtain ⟨v, hv, rv⟩ := dictGet_rp hk kk rr q
        cases r1
        have g : DGet w.H a (kV k) (some v) := .inl ⟨kvs, k, hrd, rfl, hv.symm⟩
        exact tail_any (dict_typeIs I g) PySem.F.slot_dict_getitem.lookup (d_getItem (by have := B.hu; omega) I g r2 fun w' s3 I3 rw' => ⟨v, w.H, I3, rw', ok d v o rv⟩) hsq
    · rw [if_neg c] at o; exact o.elim
  | lst xs =>
    obtain ⟨i, rfl⟩ : ∃ i, y = .int i := by cases y with | int i => exact ⟨i, rfl⟩ | _ => exact (show False from o).elim
    cases ry
    obtain ⟨a, vs, rfl, h, ra⟩ := rp_seq rx
    have o : OutR R σ Γ T w (optD (atI xs i) M) _ := o
    cases q : atI xs i with
    | none => rw [q] at o; exact o.elim
    | some d =>
      rw [q] at o
      obtain ⟨v, hv, rv⟩ := atI_rp ra q
      exact ix_list _ _ pins s σ w.H _ _ u1 u2 Q I r1 r2 ⟨a, vs, i, v, rfl, rfl, .of h, hv, ok d v o rv⟩ hsq
  | tup xs =>
    obtain ⟨i, rfl⟩ : ∃ i, y = .int i := by cases y with | int i => exact ⟨i, rfl⟩ | _ => exact (show False from o).elim
    cases ry
    obtain ⟨a, vs, rfl, h, ra⟩ := rp_tup rx
    have o : OutR R σ Γ T w (optD (atI xs i) M) _ := o
    cases q : atI xs i with
    | none => rw [q] at o; exact o.elim
    | some d =>
      rw [q] at o
      obtain ⟨v, hv, rv⟩ := atI_rp ra q
      exact ix_tup _ _ pins s σ w.H _ _ u1 u2 Q I r1 r2 ⟨a, vs, i, v, rfl, rfl, B.RK ▸ h, hv, ok d v o rv⟩ hsq
  | str cs =>
    obtain ⟨i, rfl⟩ : ∃ i, y = .int i := by cases y with | int i => exact ⟨i, rfl⟩ | _ => exact (show False from o).elim
    cases rx; cases ry
    have o : OutR R σ Γ T w (if cs.length ≤ lim then (match atI cs i with
      | some c => Res.ok (D.str [c]) M
      | none => Res.stuck) else Res.stuck) _ := o
    by_cases c : cs.length ≤ lim
    · rw [if_pos c] at o
      cases q : atI cs i with
      | none => rw [q] at o; exact o.elim
      | some ch =>
        rw [q] at o
        exact ix_str _ _ pins s σ w.H _ _ u1 u2 Q I r1 r2 ⟨sof cs, i, ch, rfl, rfl, by rw [sof_len, hz]; unfold lim at c; omega, (atI_eq cs i).trans q, ok (.str [ch]) (.str ⟨#[ch]⟩) o (.str [ch])⟩ hsq
    · rw [if_neg c] at o; exact o.elim
  | scr xs =>
    obtain ⟨i, rfl⟩ : ∃ i, y = .int i := by cases y with | int i => exact ⟨i, rfl⟩ | _ => exact (show False from o).elim
    cases ry
    cases rx with
    | scr h ra =>
    have h : SqL X.K w.H _ _ := B.RK ▸ h.sq
    have o : OutR R σ Γ T w (optD (atI xs i) M) _ := o
    cases q : atI xs i with
    | none => rw [q] at o; exact o.elim
    | some d =>
      rw [q] at o
      obtain ⟨v, hv, rv⟩ := atI_rp ra q
      exact ix_list _ _ pins s σ w.H _ _ u1 u2 Q I r1 r2 ⟨_, _, i, v, rfl, rfl, h, hv, ok d v o rv⟩ hsq
  | ref kk =>
    obtain ⟨i, rfl⟩ : ∃ i, y = .int i := by cases y with | int i => exact ⟨i, rfl⟩ | _ => exact (show False from o).elim
    cases ry
    cases rx with
    | ref hκ =>
    have o : OutR R σ Γ T w (match M[kk]? with
      | some (.lst xs) => optD (atI xs i) M
      | _ => Res.stuck) _ := o
    cases qm : M[kk]? with
    | none => rw [qm] at o; exact o.elim
    | some c =>
      rw [qm] at o
      cases c with
      | ins _ _ _ => exact o.elim
      | lst xs =>
        obtain ⟨a', h1, vs, h2, ra⟩ := bb.mem.at_ kk _ qm
        rw [hκ] at h1
        cases h1
        have o : OutR R σ Γ T w (optD (atI xs i) M) _ := o
        cases q : atI xs i with
        | none => rw [q] at o; exact o.elim
        | some d =>
          rw [q] at o
          obtain ⟨v, hv, rv⟩ := atI_rp ra q
          exact ix_list _ _ pins s σ w.H _ _ u1 u2 Q I r1 r2 ⟨_, _, i, v, rfl, rfl, .of h2, hv, ok d v o rv⟩ hsq
  | _ => exact (show False from (by cases y <;> exact o)).elim
theorem e_ix (B : Bd S k ca X R) (ha : PE X a (tE R true ia)) (hb : PE X b (tE R true ib)) (hs : PlainIx b := by intro _ _; rfl) : PE X (.Subscript a b pos) (tE R z (.app pIx (.cons ia (.cons ib .nil)))) :=
  PE.up ⟨fun pins s σ H Q I h => Subscript_ (bin_go (o_ix (a := a) B hs) ha hb I h fun _ _ q => q)⟩
end
end Pk

set_option Elab.async false
set_option linter.all false
set_option autoImplicit false
set_option maxRecDepth 100000
set_option maxHeartbeats 1000000
/-! Sound12: slices, texts, repr. -/
namespace Pk
open PySem PySem.Spec PyProof.Rows L2

/-! ### slices -/
section
variable {S : Sx} {k : Nat} {ca : String → Addr} {X : Cx} {R : Rd0} {e a b : Expr} {ia ib ix : Ex} {z : Bool} {p2 pos : Pos}
theorem sIx_eq (n d : Nat) (o : Option Int) : HT.sIx n d o = Pk.sIx n d o := by cases o <;> rfl
theorem cut_rp {w : Wd} {vs : List V} {ds : List D} (r : RpAll R.K R.ca w vs ds) (lo hi : Option Int) : RpAll R.K R.ca w (cutV vs lo hi) (cut ds lo hi) := by
  unfold cutV cut
  rw [sIx_eq, sIx_eq, r.length]
  exact (r.drop _).take _
theorem cut_whole {α : Type} {xs : List α} {lo hi : Option Int} (h : Pk.sIx xs.length 0 lo = 0 ∧ Pk.sIx xs.length xs.length hi = xs.length) : cut xs lo hi = xs := by
  unfold cut
  rw [h.1, h.2]
  simp
def rSlAll (K : PySem.W.Frag) : V → Option Int → Option Int → Hp → VK → Prop := fun x lo hi H Q => rSlL K x lo hi H Q ∨ rSlA K x lo hi H Q ∨ rSlS x lo hi H Q
theorem sl_all : SlR X (rSlAll X.K) := SlR.or sl_list (SlR.or sl_tupA sl_str)
theorem sl_core (B : Bd S k ca X R) {σ : L2.St} {Γ : Env} {M : Mem} {T : List Addr} {w : Wd} {x : D} {v : V} {lo hi : Option Int} {Q : VK} (bb : Bears R w σ Γ M T) (r : Rp R.K R.ca w true v x)
    (o : OutR R σ Γ T w (optD (cutD x lo hi) M) fun d _ w' => ∀ v, Rp R.K R.ca w' false v d → Q v w'.H) : rSlAll X.K v lo hi w.H Q := by
  cases x with
  | lst xs =>
    obtain ⟨a, vs, rfl, h, ra⟩ := rp_seq r
    exact .inl ⟨a, vs, rfl, .of h, fun p hp => OutR.new (d := D.lst (cut xs lo hi)) o bb hp _ (new_lst bb hp (cut_rp ra lo hi))⟩
  | scr xs =>
    cases r with
    | scr h ra =>
    have h : SqL X.K w.H _ _ := B.RK ▸ h.sq
    exact .inl ⟨_, _, rfl, h, fun p hp => OutR.new (d := D.lst (cut xs lo hi)) o bb hp _ (new_lst bb hp (cut_rp ra lo hi))⟩
  | tup xs =>
    cases r with
    | tup h ra =>
    refine .inr (.inl ⟨_, _, rfl, B.RK ▸ h.sq, fun hw => ?_, fun _ p hp => OutR.new (d := D.tup (cut xs lo hi)) o bb hp _ (new_tup bb hp (cut_rp ra lo hi))⟩)
    rw [sIx_eq, sIx_eq, ra.length] at hw
    have o := OutR.here (a := D.tup (cut xs lo hi)) o bb
    rw [cut_whole hw] at o
    exact o _ (.tup h ra)
  | str s =>
    cases r
    have o : OutR R σ Γ T w (optD (if s.length ≤ lim then some (.str (cut s lo hi)) else none) M) _ := o
    by_cases c : s.length ≤ lim
    · rw [if_pos c] at o
      refine .inr (.inr ⟨_, rfl, by rw [sof_len, sizeLine_eq]; unfold lim at c; omega, ?_⟩)
      have e : cutS (sof s) lo hi = sof (cut s lo hi) := by
        unfold cutS cut
        rw [sIx_eq, sIx_eq, sof_len]
        rfl
      rw [e]
      exact OutR.here (a := D.str (cut s lo hi)) o bb _ (.str _)
    · rw [if_neg c] at o; exact o.elim
  | _ => exact (show False from o).elim
/-- the arguments one by one -/
theorem evs1 {σ : L2.St} {Γ : Env} {T : List Addr} {w : Wd} {M : Mem} {irs : Exs} {F : Fn} {Q : D → Mem → Wd → Prop} (o : OutR R σ Γ T w (ev (.app F (.cons ia irs)) Γ M) Q) :
    OutR R σ Γ T w (ev ia Γ M) fun x M1 w1 => OutR R σ Γ T w1 (ev (.app (fun ds M => F (x :: ds) M) irs) Γ M1) Q := by
  have o : OutR R σ Γ T w (bnd (bnd (ev ia Γ M) fun d M => bnd (evs irs Γ M) fun ds M => .ok (d :: ds) M) F) Q := o
  refine OutR.bnd (f := fun x M1 => ev (.app (fun ds M => F (x :: ds) M) irs) Γ M1) ?_
  revert o
  cases ev ia Γ M with
  | ok d M1 =>
    simp only [bnd_ok]
    show OutR R σ Γ T w (bnd (bnd (evs irs Γ M1) fun ds M => .ok (d :: ds) M) F) Q → OutR R σ Γ T w (bnd (evs irs Γ M1) fun ds M => F (d :: ds) M) Q
    cases evs irs Γ M1 <;> exact id
  | err x M1 => exact id
  | stuck => exact id
theorem evs0 {σ : L2.St} {Γ : Env} {T : List Addr} {w : Wd} {M : Mem} {F : Fn} {Q : D → Mem → Wd → Prop} (o : OutR R σ Γ T w (ev (.app F .nil) Γ M) Q) : OutR R σ Γ T w (F [] M) Q := o
theorem e_sl00 (B : Bd S k ca X R) (he : PE X e (tE R true ix)) : PE X (.Subscript e (.Slice none none none p2) pos) (tE R z (.app (pSl false false) (.cons ix .nil))) :=
  PE.up <| PEmono (pe_slice sl_all he po_none po_none) fun σ H Q ⟨w, Γ, M, T, hw, sr, o⟩ => by
    subst hw
    exact ⟨w, Γ, M, T, rfl, sr, (evs1 o).imp fun x M1 w1 e1 b1 o1 v r => sl_core B b1 r (evs0 o1)⟩
theorem e_sl10 (B : Bd S k ca X R) (he : PE X e (tE R true ix)) (ha : PE X a (tE R true ia)) : PE X (.Subscript e (.Slice (some a) none none p2) pos) (tE R z (.app (pSl true false) (.cons ix (.cons ia .nil)))) :=
  PE.up <| PEmono (pe_slice sl_all he (po_some ha) po_none) fun σ H Q ⟨w, Γ, M, T, hw, sr, o⟩ => by
    subst hw
    refine ⟨w, Γ, M, T, rfl, sr, (evs1 o).imp fun x M1 w1 e1 b1 o1 v r => ?_⟩
    refine ⟨w1, Γ, M1, T, rfl, b1, (evs1 o1).imp fun y M2 w2 e2 b2 o2 u q => ?_⟩
    have o2 := evs0 o2
    obtain ⟨i, rfl⟩ : ∃ i, y = .int i := by cases y with | int i => exact ⟨i, rfl⟩ | _ => exact (show False from o2).elim
    cases q
    exact ⟨i, rfl, sl_core B b2 (r.ext e2) o2⟩
theorem e_sl01 (B : Bd S k ca X R) (he : PE X e (tE R true ix)) (ha : PE X a (tE R true ia)) : PE X (.Subscript e (.Slice none (some a) none p2) pos) (tE R z (.app (pSl false true) (.cons ix (.cons ia .nil)))) :=
  PE.up <| PEmono (pe_slice sl_all he po_none (po_some ha)) fun σ H Q ⟨w, Γ, M, T, hw, sr, o⟩ => by
    subst hw
    refine ⟨w, Γ, M, T, rfl, sr, (evs1 o).imp fun x M1 w1 e1 b1 o1 v r => ?_⟩
    refine ⟨w1, Γ, M1, T, rfl, b1, (evs1 o1).imp fun y M2 w2 e2 b2 o2 u q => ?_⟩
    have o2 := evs0 o2
    obtain ⟨i, rfl⟩ : ∃ i, y = .int i := by cases y with | int i => exact ⟨i, rfl⟩ | _ => exact (show False from o2).elim
    cases q
    exact ⟨i, rfl, sl_core B b2 (r.ext e2) o2⟩
theorem pI_int {M : Mem} {x : D} {σ : L2.St} {Γ : Env} {T : List Addr} {w : Wd} {Q : D → Mem → Wd → Prop} (o : OutR R σ Γ T w (pI [x] M) Q) : ∃ i, x = .int i := by
  cases x with
  | int i => exact ⟨i, rfl⟩
  | _ => exact (show False from o).elim
theorem e_sl11 (B : Bd S k ca X R) (he : PE X e (tE R true ix)) (ha : PE X a (tE R true ia)) (hb : PE X b (tE R true ib)) : PE X (.Subscript e (.Slice (some a) (some b) none p2) pos) (tE R z (.app (pSl true true) (.cons ix (.cons (.app pI (.cons ia .nil)) (.cons ib .nil))))) :=
  PE.up <| PEmono (pe_slice sl_all he (po_some ha) (po_some hb)) fun σ H Q ⟨w, Γ, M, T, hw, sr, o⟩ => by
    subst hw
    refine ⟨w, Γ, M, T, rfl, sr, (evs1 o).imp fun x M1 w1 e1 b1 o1 v r => ?_⟩
    refine ⟨w1, Γ, M1, T, rfl, b1, (a1e (evs1 o1)).imp fun y M2 w2 e2 b2 o2 u q => ?_⟩
    obtain ⟨i, rfl⟩ := pI_int o2
    have o2 := OutR.here (a := D.int i) o2 b2
    cases q
    refine ⟨i, rfl, w2, Γ, M2, T, rfl, b2, (evs1 o2).imp fun y2 M3 w3 e3 b3 o3 u2 q2 => ?_⟩
    have o3 := evs0 o3
    obtain ⟨j, rfl⟩ : ∃ i, y2 = .int i := by cases y2 with | int i => exact ⟨i, rfl⟩ | _ => exact (show False from o3).elim
    cases q2
    exact ⟨j, rfl, sl_core B b3 ((r.ext e2).ext e3) o3⟩
end

/-! ### texts -/
theorem ofString_sof (s : String) : Str.ofString s = sof (codes s) := by
  rw [Str.ofString_eq_toList]; rfl
theorem sof_app (s t : Cs) : sof s ++ sof t = sof (s ++ t) := by
  show Str.mk (s.toArray ++ t.toArray) = Str.mk (s ++ t).toArray
  simp
theorem fits_log {i : Int} (h : fitsI i = true) : i.natAbs.log2 < 1920 := by
  unfold fitsI at h
  have h1 : i.natAbs < 10 ^ 500 := of_decide_eq_true h
  by_cases hz : i.natAbs = 0
  · rw [hz]; decide
  · exact Nat.lt_of_lt_of_le ((Nat.log2_lt hz).mpr (Nat.lt_of_lt_of_le h1 (by decide : 10 ^ 500 ≤ 2 ^ 1900))) (by decide)
section
variable {S : Sx} {k : Nat} {ca : String → Addr} {X : Cx} {R : Rd0} {e o a b : Expr} {es : List Expr} {ia io ib ix : Ex} {irs : Exs} {z : Bool} {p2 pos apos : Pos}
theorem rp_strs {w : Wd} : ∀ {vs : List V} {ds : List D} {ss : List Cs}, RpAll R.K R.ca w vs ds → Pk.strsL ds = some ss → vs = (ss.map sof).map V.str
  | _, _, is, .nil, h => by cases h; rfl
  | _, _, is, .cons (d := d) r rr, h => by
    cases d <;> first | (exfalso; simp [Pk.strsL] at h; done) | skip
    unfold Pk.strsL at h
    split at h
    · cases h
      cases r
      rw [List.map_cons, List.map_cons, rp_strs rr (by assumption)]
    · cases h
theorem strs_rp {w : Wd} : ∀ ss : List Cs, RpAll R.K R.ca w ((ss.map sof).map V.str) (ss.map D.str)
  | [] => .nil
  | s :: ss => .cons (.str s) (strs_rp ss)
theorem joinC_len (y : Cs) : ∀ ss : List Cs, ((ss.map sof).map (·.length)).sum + ss.length * y.length ≤ (joinC y ss).length + y.length
  | [] => by simp
  | [s] => by simp [joinC, sof_len]
  | s :: t :: r => by
    have ih := joinC_len y (t :: r)
    simp only [List.map_cons, List.sum_cons, List.length_cons, sof_len, joinC, List.length_append, Nat.add_mul, Nat.one_mul] at ih ⊢
    omega
theorem join_sof (y : Cs) : ∀ ss : List Cs, Txt.join (sof y) (ss.map sof) = sof (joinC y ss) := by
  intro ss
  rw [TL.join_eq]
  induction ss with
  | nil => rfl
  | cons s ss ih =>
    cases ss with
    | nil => rfl
    | cons t r =>
      show sof s ++ sof y ++ Str.join (sof y) ((t :: r).map sof) = sof (s ++ y ++ joinC y (t :: r))
      rw [ih, sof_app, sof_app]
theorem pS_str {M : Mem} {x : D} {σ : L2.St} {Γ : Env} {T : List Addr} {w : Wd} {Q : D → Mem → Wd → Prop} (o : OutR R σ Γ T w (pS [x] M) Q) : ∃ s, x = .str s := by
  cases x with
  | str i => exact ⟨i, rfl⟩
  | _ => exact (show False from o).elim
/-- y.join(xs) -/
theorem e_join (ho : PE X o (tE R true io)) (he : PE X e (tE R true ia)) (hs : noStar e = true) (hbase : attributeBase o "join" X.env (eval o X.env) = eval o X.env := by rfl) (hline : (apos.endLine == pos.line) = true := by rfl) :
    PE X (.Call (.Attribute o "join" apos) [e] [] pos) (tE R z (.app pJoin (.cons (.app pS (.cons io .nil)) (.cons ia .nil)))) :=
  PE.up <| PEmono (pe_join ho he (star_cons hs) hbase hline) fun σ H Q ⟨w, Γ, M, T, hw, sr, o⟩ => by
    subst hw
    refine ⟨w, Γ, M, T, rfl, sr, (a1e (evs1 o)).imp fun x M1 w1 e1 b1 o1 v r => ?_⟩
    obtain ⟨y, rfl⟩ := pS_str o1
    have o1 := OutR.here (a := D.str y) o1 b1
    cases r
    refine ⟨⟨_, rfl⟩, w1, Γ, M1, T, rfl, b1, (evs1 o1).imp fun l M2 w2 e2 b2 o2 u q => ?_⟩
    have o2 := evs0 o2
    obtain ⟨xs, rfl⟩ : ∃ i, l = .lst i := by cases l with | lst i => exact ⟨i, rfl⟩ | _ => exact (show False from o2).elim
    obtain ⟨a, vs, rfl, h, ra⟩ := rp_seq q
    have o2 : OutR R σ Γ T w2 (match Pk.strsL xs with
      | some ss => if (joinC y ss).length + y.length ≤ lim then Res.ok (D.str (joinC y ss)) M2 else Res.stuck
      | none => Res.stuck) _ := o2
    cases hq : Pk.strsL xs with
    | none => rw [hq] at o2; exact o2.elim
    | some ss =>
      rw [hq] at o2
      have e := rp_strs ra hq
      subst e
      have o2 : OutR R σ Γ T w2 (if (joinC y ss).length + y.length ≤ lim then Res.ok (D.str (joinC y ss)) M2 else Res.stuck) _ := o2
      by_cases c : (joinC y ss).length + y.length ≤ lim
      · rw [if_pos c] at o2
        refine ⟨sof y, a, ss.map sof, rfl, rfl, .inl (.of h), ?_, ?_⟩
        · have := joinC_len y ss
          rw [List.length_map, sof_len]
          unfold lim at c
          omega
        · rw [join_sof]
          exact OutR.here o2 b2 _ (.str _)
      · rw [if_neg c] at o2; exact o2.elim
theorem splitC_spl (c : Nat) : ∀ (l acc : Cs), TL.spl [c] 0 acc l = splitC c acc l
  | [], acc => rfl
  | x :: r, acc => by
    have e : TL.pre [c] (x :: r) = decide (x = c) := by
      show ((x :: r).take 1 == [c]) = _
      rw [Bool.eq_iff_iff]
      simp
    show (if TL.pre [c] (x :: r) = true then acc :: TL.spl [c] ([c].length - 1) [] r else TL.spl [c] 0 (acc ++ [x]) r) = if x = c then acc :: splitC c [] r else splitC c (acc ++ [x]) r
    rw [e]
    by_cases h : x = c
    · rw [if_pos (by simpa using h), if_pos h]
      show acc :: TL.spl [c] 0 [] r = _
      rw [splitC_spl c r []]
    · rw [if_neg (by simpa using h), if_neg h, splitC_spl c r]
theorem split_sof {c : Nat} (hc : c < 256) (s : Cs) : Txt.split (sof s) (sof [c]) = (splitC c [] s).map sof := by
  have h := TL.split_spl (sof s) (sof [c]) (show [c] ≠ [] by simp) (TL.kind_ok (by
    show (sof [c]).cps.all (· < 256) = true
    rw [← Array.all_toList]
    simpa [sof] using hc))
  have h2 : (Txt.split (sof s) (sof [c])).map TL.tl = splitC c [] s := by rw [h]; exact splitC_spl c s []
  have h3 : ∀ l : List Str, (l.map TL.tl).map sof = l := by
    intro l
    induction l with
    | nil => rfl
    | cons x r ih =>
      show sof (TL.tl x) :: (r.map TL.tl).map sof = x :: r
      rw [ih]
      congr 1
  rw [← h2, h3]
/-- s.split(c) -/
theorem e_split (ho : PE X o (tE R true io)) (he : PE X e (tE R true ia)) (hs : noStar e = true) (hbase : attributeBase o "split" X.env (eval o X.env) = eval o X.env := by rfl) (hline : (apos.endLine == pos.line) = true := by rfl) :
    PE X (.Call (.Attribute o "split" apos) [e] [] pos) (tE R z (.app pSplit (.cons (.app pS (.cons io .nil)) (.cons ia .nil)))) :=
  PE.up <| PEmono (pe_split ho he (star_cons hs) hbase hline) fun σ H Q ⟨w, Γ, M, T, hw, sr, o⟩ => by
    subst hw
    refine ⟨w, Γ, M, T, rfl, sr, (a1e (evs1 o)).imp fun x M1 w1 e1 b1 o1 v r => ?_⟩
    obtain ⟨y, rfl⟩ := pS_str o1
    have o1 := OutR.here (a := D.str y) o1 b1
    cases r
    refine ⟨⟨_, rfl⟩, w1, Γ, M1, T, rfl, b1, (evs1 o1).imp fun l M2 w2 e2 b2 o2 u q => ?_⟩
    have o2 := evs0 o2
    obtain ⟨c, rfl⟩ : ∃ i, l = .str [i] := by
      match l, o2 with
      | .str [i], _ => exact ⟨i, rfl⟩
      | .str [], o2 => exact (show False from o2).elim
      | .str (_ :: _ :: _), o2 => exact (show False from o2).elim
      | .non, o2 => exact (show False from o2).elim
      | .bl _, o2 => exact (show False from o2).elim
      | .int _, o2 => exact (show False from o2).elim
      | .tup _, o2 => exact (show False from o2).elim
      | .lst _, o2 => exact (show False from o2).elim
      | .dict _ _, o2 => exact (show False from o2).elim
      | .ins _ _ _, o2 => exact (show False from o2).elim
      | .ref _, o2 => exact (show False from o2).elim
      | .scr _, o2 => exact (show False from o2).elim
      | .cls _, o2 => exact (show False from o2).elim
    cases q
    have o2 : OutR R σ Γ T w2 (if y.length ≤ lim ∧ c < 256 then Res.ok (D.lst ((splitC c [] y).map D.str)) M2 else Res.stuck) _ := o2
    by_cases hc : y.length ≤ lim ∧ c < 256
    · rw [if_pos hc] at o2
      refine ⟨sof y, sof [c], rfl, rfl, rfl, by rw [sof_len, sizeLine_eq]; have := hc.1; unfold lim at this; omega, fun p hp => ?_⟩
      rw [split_sof hc.2]
      exact OutR.new o2 b2 hp _ (new_lst b2 hp (strs_rp _))
    · rw [if_neg hc] at o2; exact o2.elim

/-! ### f-strings -/
def JX (X : Cx) (R : Rd0) (es : List Expr) (irs : Exs) : Prop := ∃ ts, PJ X es ts ∧ ∀ (acc : Str) (σ : L2.St) (w : Wd) (Γ : Env) (M : Mem) (T : List Addr) (Q : Str → Hp → Prop), Bears R w σ Γ M T → acc.length + irs.len * lim ≤ sizeLine →
  OutR R σ Γ T w (evs irs Γ M) (fun ds _ w' => ∃ s, catS ds = some s ∧ Q (acc ++ sof s) w'.H) → tJs ts acc σ w.H Q
theorem str_app_nil (a : Str) : a ++ sof [] = a := by
  show Str.mk (a.cps ++ ([] : List Nat).toArray) = a
  simp
theorem str_app_assoc (a : Str) (s t : Cs) : (a ++ sof s) ++ sof t = a ++ sof (s ++ t) := by
  show Str.mk ((a.cps ++ s.toArray) ++ t.toArray) = Str.mk (a.cps ++ (s ++ t).toArray)
  simp
theorem str_app_len (a : Str) (s : Cs) : (a ++ sof s).length = a.length + s.length := by
  show (a.cps ++ s.toArray).size = a.cps.size + s.length
  simp
theorem j_nil : JX X R [] .nil := ⟨[], .nil, fun acc σ w Γ M T Q b hz o => by
  obtain ⟨s, hs, q⟩ := OutR.here (a := ([] : List D)) o b
  cases hs
  rw [str_app_nil] at q
  exact q⟩
theorem OutR.eqn {α : Type} {σ : L2.St} {Γ : Env} {T : List Addr} {w : Wd} {r : Res α} {Q : α → Mem → Wd → Prop} (h : OutR R σ Γ T w r Q) : OutR R σ Γ T w r fun a M w' => r = .ok a M ∧ Q a M w' := by
  cases r with
  | ok a M => exact fun w' e b => ⟨rfl, h w' e b⟩
  | err x M => exact h
  | stuck => exact h
theorem fmt_ok {ds : List D} {M M' : Mem} {d : D} (h : pFmt ds M = .ok d M') : ∃ s, d = .str s ∧ s.length ≤ lim := by
  unfold pFmt at h
  split at h
  · split at h
    · cases h; exact ⟨_, rfl, by assumption⟩
    · cases h
  · split at h
    · rename_i c
      cases h; exact ⟨_, rfl, c.2⟩
    · cases h
  · cases h
/-- the text of a part -/
theorem j_step {t : TE} {ic : Ex} {es : List Expr} (h : PE X e t) (ht : ∀ σ H Q, tE R false (.app pFmt (.cons ic .nil)) σ H Q → t σ H Q) (hr : JX X R es irs) : JX X R (e :: es) (.cons (.app pFmt (.cons ic .nil)) irs) := by
  obtain ⟨ts, h2, h3⟩ := hr
  refine ⟨t :: ts, .cons h h2, fun acc σ w Γ M T Q b hz o => ?_⟩
  have hz : acc.length + (irs.len + 1) * lim ≤ sizeLine := hz
  have hz' : acc.length + irs.len * lim + lim ≤ sizeLine := by rw [Nat.add_mul, Nat.one_mul] at hz; omega
  have o : OutR R σ Γ T w (bnd (ev (.app pFmt (.cons ic .nil)) Γ M) fun d M => bnd (evs irs Γ M) fun ds M => .ok (d :: ds) M) _ := o
  refine ht σ w.H _ ⟨w, Γ, M, T, rfl, b, o.bnd.eqn.imp fun d M1 w1 e1 b1 ⟨he, o1⟩ v r => ?_⟩
  obtain ⟨ds, M0, _, hf⟩ := bnd_okE (show bnd (evs (.cons ic .nil) Γ M) pFmt = .ok d M1 from he)
  obtain ⟨s, rfl, hs⟩ := fmt_ok hf
  cases r
  refine ⟨sof s, rfl, by rw [str_app_len]; omega, h3 (acc ++ sof s) σ w1 Γ M1 T Q b1 (by rw [str_app_len]; omega) (o1.bnd.imp fun ds M2 w2 e2 b2 o2 => ?_)⟩
  obtain ⟨t', ht', q⟩ := OutR.here (a := D.str s :: ds) o2 b2
  have ht' : (match catS ds with | some t => some (s ++ t) | none => none) = some t' := ht'
  cases hc : catS ds with
  | none => rw [hc] at ht'; cases ht'
  | some u =>
    rw [hc] at ht'
    cases ht'
    exact ⟨u, rfl, by rw [str_app_assoc]; exact q⟩
theorem fmt_read {σ : L2.St} {H : Hp} {Q : VK} (h : tE R false (.app pFmt (.cons ia .nil)) σ H Q) : tFmt (tE R true ia) σ H Q := by
  obtain ⟨w, Γ, M, T, hw, sr, o⟩ := h
  subst hw
  refine ⟨w, Γ, M, T, rfl, sr, (a1e o).imp fun x M1 w1 e1 b1 o1 v r => ?_⟩
  cases x with
  | str s =>
    cases r
    have o1 : OutR R σ Γ T w1 (if s.length ≤ lim then Res.ok (D.str s) M1 else Res.stuck) _ := o1
    by_cases c : s.length ≤ lim
    · rw [if_pos c] at o1
      exact .inl ⟨sof s, rfl, by rw [sof_len, sizeLine_eq]; unfold lim at c; omega, OutR.here o1 b1 _ (.str _)⟩
    · rw [if_neg c] at o1; exact o1.elim
  | int i =>
    cases r
    have o1 : OutR R σ Γ T w1 (if fitsI i ∧ (intCs i).length ≤ lim then Res.ok (D.str (intCs i)) M1 else Res.stuck) _ := o1
    by_cases c : fitsI i ∧ (intCs i).length ≤ lim
    · rw [if_pos c] at o1
      refine .inr ⟨i, rfl, fits_log c.1, ?_⟩
      rw [ofString_sof]
      exact OutR.here o1 b1 _ (.str _)
    · rw [if_neg c] at o1; exact o1.elim
  | _ => exact (show False from o1).elim
/-- {e} -/
theorem j_fmt (he : PE X e (tE R true ia)) (hr : JX X R es irs) : JX X R (.FormattedValue e (-1) none pos :: es) (.cons (.app pFmt (.cons ia .nil)) irs) := j_step (pe_fmt he) (fun _ _ _ h => fmt_read h) hr
/-- a text between -/
theorem j_str {n : Nat} {zs : Str} (s : Cs) (h : zs = sof s) (hs : s.length ≤ lim) (hr : JX X R es irs) : JX X R (.Constant (.str zs) n pos :: es) (.cons (.app pFmt (.cons (.const (.str s)) .nil)) irs) :=
  j_step pe_str (fun σ H Q ⟨w, Γ, M, T, hw, sr, o⟩ => by
    subst hw h
    have o1 : OutR R σ Γ T w (if s.length ≤ lim then Res.ok (D.str s) M else Res.stuck) _ := o
    rw [if_pos hs] at o1
    exact OutR.here o1 sr _ (.str _)) hr
theorem e_fstr {v1 v2 : Expr} {rest : List Expr} (h : JX X R (v1 :: v2 :: rest) irs) (hl : irs.len ≤ 15) : PE X (.JoinedStr (v1 :: v2 :: rest) pos) (tE R z (.app pFstr irs)) := by
  obtain ⟨ts, h2, h3⟩ := h
  refine PE.up <| PEmono (pe_joined h2) fun σ H Q ⟨w, Γ, M, T, hw, sr, o⟩ => ?_
  subst hw
  refine h3 Str.empty σ w Γ M T _ sr ?_ ((app_evs o).imp fun ds M1 w1 e1 b1 ⟨_, o1⟩ => ?_)
  · rw [sizeLine_eq]
    show 0 + irs.len * 1000000 ≤ 16777216
    omega
  · have o1 : OutR R σ Γ T w1 (match catS ds with
      | some s => if s.length ≤ lim then Res.ok (D.str s) M1 else Res.stuck
      | none => Res.stuck) _ := o1
    cases hc : catS ds with
    | none => rw [hc] at o1; exact o1.elim
    | some s =>
      rw [hc] at o1
      have o1 : OutR R σ Γ T w1 (if s.length ≤ lim then Res.ok (D.str s) M1 else Res.stuck) _ := o1
      by_cases c : s.length ≤ lim
      · rw [if_pos c] at o1
        refine ⟨s, rfl, ?_⟩
        have e : Str.empty ++ sof s = sof s := by
          show Str.mk (#[] ++ s.toArray) = _
          simp [sof]
        rw [e]
        exact OutR.here o1 b1 _ (.str _)
      · rw [if_neg c] at o1; exact o1.elim

/-! ### repr -/
def reprD (d : D) : Cs := (toPy d).shown.cps.toList
theorem reprD_sof (d : D) : (toPy d).shown = sof (reprD d) := by
  unfold reprD sof
  simp
def isE0 : D → Bool
  | .dict [] [] => true
  | _ => false
theorem isE0_eq {d : D} (h : isE0 d = true) : d = .dict [] [] := by
  unfold isE0 at h; split at h
  · rfl
  · cases h
def pRepr : Fn
  | [d], M => if isE0 d = true then .ok (.str [123, 125]) M else if pl 8 d = true ∧ (toPy d).showable = true ∧ (reprD d).length ≤ 10 * lim then .ok (.str (reprD d)) M else .stuck
  | _, _ => .stuck
theorem b_repr0 (hK : R.K = X.K) (hu : X.A.units + 65 < cLine) (hgd : X.A.guards = some []) : CallP X R (.builtin "repr") pRepr := by
  intro pins s σ Γ M T w ds vs us Q I b rs r o
  by_cases hd : ds = [.dict [] []]
  · subst hd
    obtain ⟨v, rfl, rx⟩ := rs.one
    obtain ⟨u, rfl, ru⟩ := vals1 r
    have o : OutR R σ Γ T w (.ok (D.str [123, 125]) M) _ := o
    have q := OutR.here o b
    obtain ⟨a, rfl, ns, o1, es, n, ho, hc, hdt, hes⟩ : ∃ a, u = .ref a ∧ (a == sysModules) = false ∧ ∃ (o : Obj) (es : Array DictEntry) (n : Nat), s.heap.get? a = some o ∧ o.cls = .type "dict" ∧ o.data = .dict es n ∧ es.toList = [] := by
      cases rx with
      | @dK _ a o kvs _ _ e _ p _ =>
        cases (show u = Value.ref a from ru)
        obtain ⟨ns, ho, hx, es, ep, vs, hd, hz, _⟩ := I.frzK e
        refine ⟨a, rfl, ns, o, es, ep, ho, hx.1, hd, ?_⟩
        have : kvs = [] := by cases kvs with | nil => rfl | cons k r => cases p
        subst this
        exact List.length_eq_zero_iff.mp (by rw [Array.length_toList]; exact hz)
      | @dO a kvs _ _ e _ p _ =>
        cases (show u = Value.ref a from ru)
        obtain ⟨_, ns, vs, kv, o, es, ep, ho, hx, hd, r⟩ := (show ObjOk X.prog X.w w.H s.heap a (.dK kvs) from I.hok a _ e)
        refine ⟨a, rfl, ns, o, es, ep, ho, hx.1, hd, ?_⟩
        have : kvs = [] := by cases kvs with | nil => rfl | cons k r => cases p
        subst this
        have l1 := r.2.1.length
        have l2 : ([] : List (Key × V)).length = vs.length := Paired.length kv
        rw [Array.length_toList] at l1
        exact List.length_eq_zero_iff.mp (by rw [Array.length_toList]; simp at l2; omega)
    have hr : Reads s.heap (.ref a) (.dict []) [a] := Reads.dict (as := []) (bs := []) (kvs := []) ho hc hdt (by rw [hes]; exact .nil) (by rw [hes]; exact .nil)
    have hne : a ≠ sysModules := fun e => by rw [e] at ns; simp at ns
    have hq : ∀ (h' : Heap) (t tk : Tok), (∀ b o, s.heap.get? b = some o → h'.get? b = some o) → EP X pins σ Q (.str (PyData.dict []).shown t) { s with heap := h', toks := tk } := fun h' t tk hk =>
      ⟨.str (PyData.dict []).shown, w.H, I.kept (t' := tk) hk, ⟨t, rfl⟩, q _ (.str _)⟩
    exact repr_of_reads' hr rfl (fun _ hm => hne (List.mem_singleton.mp hm).symm) hgd (by show X.A.units + (1 + 1) < cLine; omega) (fun _ _ e => e) hq (by decide +kernel)
  match ds, rs, o with
  | [], _, o => exact (show False from o).elim
  | _ :: _ :: _, _, o => exact (show False from o).elim
  | [d], rs, o =>
    obtain ⟨v, rfl, rx⟩ := rs.one
    obtain ⟨u, rfl, ru⟩ := vals1 r
    have hn : ¬ isE0 d = true := fun h => hd (by rw [isE0_eq h])
    have o : OutR R σ Γ T w (if isE0 d = true then Res.ok (D.str [123, 125]) M else if pl 8 d = true ∧ (toPy d).showable = true ∧ (reprD d).length ≤ 10 * lim then Res.ok (D.str (reprD d)) M else Res.stuck) _ := o
    rw [if_neg hn] at o
    by_cases c : pl 8 d = true ∧ (toPy d).showable = true ∧ (reprD d).length ≤ 10 * lim
    · rw [if_pos c] at o
      obtain ⟨c1, c2, c3⟩ := c
      have q := OutR.here o b
      have hsz : (toPy d).shown.length ≤ sizeLine := by
        rw [reprD_sof, sof_len, sizeLine_eq]
        unfold lim at c3
        omega
      have fin : ∀ (h' : Heap) (t tk : Tok), (∀ b o, s.heap.get? b = some o → h'.get? b = some o) → EP X pins σ Q (.str (toPy d).shown t) { s with heap := h', toks := tk } := fun h' t tk hk =>
        ⟨.str (toPy d).shown, w.H, I.kept (t' := tk) hk, ⟨t, rfl⟩, by rw [reprD_sof]; exact q _ (.str _)⟩
      have dep := (pl_shape 8 d c1).2
      have rr : ∀ (a : Addr), v = .ref a → u = .ref a := fun a e => by subst e; cases ru; rfl
      obtain ⟨as, hr⟩ := Dp.reads I (toPy d) v u (hK ▸ rp_dp 8 rx c1) ru
      have go : ∀ a, u = .ref a → wpAny (model X.prog X.w) X.A (call (.builtin "repr") [u]) (EP X pins σ Q) X.xe s := fun a e => by
        subst e
        exact repr_of_reads' hr c2 (PyData.noDict_hsm (PyData.hasDict_of_canLay _ (pl_shape 8 d c1).1)) hgd (by omega) (fun _ _ e => e) fin hsz
      cases rx with
      | non => cases ru; exact PySem.P.repr_of_none (fin _ _ _ fun _ _ e => e)
      | bl x => cases ru; exact PySem.P.repr_of_bool (fin _ _ _ fun _ _ e => e)
      | int i => obtain ⟨t, rfl⟩ := ru; exact PySem.P.repr_of_int (by simpa [toPy, PyData.showable] using c2) (fin _ _ _ fun _ _ e => e)
      | str x => obtain ⟨t, rfl⟩ := ru; exact PySem.P.repr_of_str (fin _ _ _ fun _ _ e => e) hsz
      | lst _ _ _ _ => exact go _ (rr _ rfl)
      | tup _ _ => exact go _ (rr _ rfl)
      | _ => exact absurd c1 (by simp [pl])
    · rw [if_neg c] at o; exact o.elim
theorem b_repr (B : Bd S k ca X R) : CallP X R (.builtin "repr") pRepr := b_repr0 B.RK B.hu B.grd
end
end Pk

set_option Elab.async false
set_option linter.all false
set_option autoImplicit false
set_option maxRecDepth 100000
set_option maxHeartbeats 1000000
/-! Sound13: lists that names own are changed; values stored side by side. -/
namespace Pk
open PySem PySem.Spec PyProof.Rows L2

section
variable {R : Rd0} {w w' : Wd} {σ : L2.St} {Γ : Env} {M M' : Mem} {T : List Addr} {p : Addr} {d d' : D} {i : Nat}
/-- what a name owns is changed -/
theorem Bears.writeOwn {o : HO} (s : Bears R w σ Γ M T) (hi : Γ[i]? = some (Slot.own d)) (hp : σ[i]? = some (some (V.ref p))) (hf : ∀ o u, w.H p ≠ some (.frz o u)) (ho : OwnC R.K R.ca (w.at p o) p d') : Bears R (w.at p o) σ (Pk.setO Γ i d') M T := by
  obtain ⟨p', e1, hz, h0, nk, nT, oc⟩ := s.own i d hi
  rw [hp] at e1
  cases e1
  unfold Pk.setO
  refine ⟨⟨s.ext.κ, s.ext.z, s.ext.z2, fun a u h n => ?_, fun a h => ?_⟩, s.zt0, fun a h => ?_, by simp [s.len], fun j e h => ?_, fun j e h => ?_, fun j e h => ?_, fun j l e e' q h1 h2 h3 h4 => ?_, fun a h => ?_, s.tnd, s.mem.len, s.mem.nd, s.mem.z, fun k c h => ?_⟩
  · have : a ≠ p := fun e => by rw [e, h0] at h; cases h
    exact (upd_ne this).trans (s.ext.keep a u h n)
  · show upd w.H p o a ≠ none
    unfold upd
    split
    · simp
    · exact s.ext.there a h
  · show upd w.H p o a ≠ none
    unfold upd
    split
    · simp
    · exact s.zt a h
  · rcases set_at h with ⟨rfl, q⟩ | ⟨ne, q⟩
    · cases q
    · obtain ⟨v, h1, h2⟩ := s.val j e q
      exact ⟨v, h1, h2.wr hz hf⟩
  · rcases set_at h with ⟨rfl, q⟩ | ⟨ne, q⟩
    · cases q
      exact ⟨p, hp, hz, h0, nk, nT, ho⟩
    · obtain ⟨q', h1, h2, h3, h4, h5, h6⟩ := s.own j e q
      exact ⟨q', h1, h2, h3, h4, h5, h6.wr (fun x => ne (s.apart i j d e p hi q hp (x ▸ h1))) hz hf⟩
  · rcases set_at h with ⟨rfl, q⟩ | ⟨ne, q⟩
    · exact s.mu i d hi
    · exact s.mu j e q
  · have f : ∀ (j : Nat) (e : D), (Γ.set i (Slot.own d'))[j]? = some (Slot.own e) → ∃ e2, Γ[j]? = some (Slot.own e2) := fun j e h => by
      rcases set_at h with ⟨rfl, _⟩ | ⟨_, h⟩
      · exact ⟨d, hi⟩
      · exact ⟨e, h⟩
    obtain ⟨f1, g1⟩ := f j e h1
    obtain ⟨f2, g2⟩ := f l e' h2
    exact s.apart j l f1 f2 q g1 g2 h3 h4
  · exact s.tmp a h
  · obtain ⟨a, h1, h2⟩ := s.mem.at_ k c h
    have ne : a ≠ p := fun e => nk (e ▸ List.mem_of_getElem? h1)
    refine ⟨a, h1, ?_⟩
    cases c with
    | lst ds => obtain ⟨vs, x, r⟩ := h2; exact ⟨vs, (upd_ne ne).trans x, r.wr hz hf⟩
    | ins c ns ds => obtain ⟨dx, fs, x, k, r⟩ := h2; exact ⟨dx, fs, (upd_ne ne).trans x, k, r.wr hz hf⟩
theorem Pres.wrZ {o : HO} (hz : w.Z p) (hf : ∀ o u, w.H p ≠ some (.frz o u)) : Pres w (w.at p o) := by
  refine ⟨⟨[], by simp [Wd.at], fun _ h => nomatch h⟩, fun a h => .inl h, fun a u h n => ?_, fun a o' u h => ?_, fun a h => ?_⟩
  · exact (upd_ne fun e => n (by rw [e]; exact hz)).trans h
  · exact (upd_ne fun e => hf _ _ (by rw [← e]; exact h)).trans h
  · show upd w.H p o a ≠ none
    unfold upd
    split
    · simp
    · exact h
end

section
variable {S : Sx} {k : Nat} {ca : String → Addr} {X : Cx} {R : Rd0} {x : Str} {i : Nat} {e : Expr} {es : List Expr} {irs : Exs} {pos xp apos cpos : Pos} {id : String} {name : Str}
/-- what a method of lists does: on values as on data -/
def MetP (X : Cx) (R : Rd0) (id : String) (G : OwnM) : Prop := ∃ r, MtR X id r ∧ ∀ (w : Wd) (p : Addr) (vs : List V) (xs : List D) (as : List V) (ds : List D) (Q : VK) (y : D) (u : D), w.H p = some (.lst vs) → RpAll R.K R.ca w vs xs → RpB R.K R.ca w false as ds → G (.lst xs) ds = some (u, y) →
  (∀ vs' ys, y = .lst ys → RpAll R.K R.ca w vs' ys → Q .non (upd w.H p (.lst vs'))) → r (.ref p) as w.H Q
theorem mp_append : MetP X R "list.append" mAppend := by
  refine ⟨rAppend, mt_append, fun w p vs xs as ds Q y u h ra rs hG hq => ?_⟩
  match ds, rs, hG with
  | [], _, hG => cases hG
  | _ :: _ :: _, _, hG => cases hG
  | [d], rs, hG =>
    obtain ⟨v, rfl, rx⟩ := rs.one
    have hG : (if xs.length < lim then some (D.non, D.lst (xs ++ [d])) else none) = some (u, y) := hG
    by_cases c : xs.length < lim
    · rw [if_pos c] at hG
      cases hG
      exact ⟨p, vs, v, rfl, rfl, h, by rw [ra.length, sizeLine_eq]; unfold lim at c; omega, hq _ _ rfl (ra.append (.cons rx .nil))⟩
    · rw [if_neg c] at hG; cases hG
theorem mp_insert : MetP X R "list.insert" mInsert := by
  refine ⟨_, mt_insert, fun w p vs xs as ds Q y u h ra rs hG hq => ?_⟩
  match ds, rs, hG with
  | [], _, hG => cases hG
  | [_], _, hG => exact absurd hG (by cases ‹D› <;> simp [mInsert])
  | a :: b :: c :: r, _, hG => exact absurd hG (by cases a <;> simp [mInsert])
  | [a, b], rs, hG =>
    obtain ⟨i, rfl⟩ : ∃ i, a = .int i := by
      cases a with
      | int i => exact ⟨i, rfl⟩
      | _ => cases hG
    obtain ⟨v, v2, rfl, rx, ry⟩ := rs.two
    cases rx
    have hG : (if xs.length < lim ∧ 0 ≤ i ∧ i.toNat < 2 ^ 60 then some (D.non, D.lst (insAt xs i b)) else none) = some (u, y) := hG
    by_cases c : xs.length < lim ∧ 0 ≤ i ∧ i.toNat < 2 ^ 60
    · rw [if_pos c] at hG
      cases hG
      refine ⟨p, vs, i, v2, rfl, rfl, h, by rw [ra.length, sizeLine_eq]; have := c.1; unfold lim at this; omega, c.2.1, by have := c.2.2; omega, hq _ _ rfl ?_⟩
      exact ((ra.take _).append (.cons ry .nil)).append (ra.drop _)
    · rw [if_neg c] at hG; cases hG
/-- x.append(..), x a name that owns its list -/
theorem s_meth (B : Bd S k ca X R) {G : OwnM} (hx : okVar S i x true = true) (slot : PySem.Slot "list" name id) (hty : typeOf (.builtin id) = pure (.type "method_descriptor")) (hm : MetP X R id G) (ha : PA X (e :: es) (tA R false irs)) (hs : (e :: es).all noStar = true)
    (hG : ∀ x ds u y, G x ds = some (u, y) → ∃ xs ys, x = .lst xs ∧ y = .lst ys)
    (hbase : attributeBase (.Name x xp) name X.env (eval (.Name x xp) X.env) = eval (.Name x xp) X.env)
    (hfew : ((backTo cpos (starEach (e :: es) X.env)).all (fun x => !x.1) && (backToKw cpos (keywordEach [] X.env)).all (fun x => x.1.isSome)
      && decide ((e :: es).length + ([] : List Keyword).length + (if ([] : List Keyword).isEmpty then 0 else 1) < 30)) = true)
    (hline : (apos.endLine == cpos.line) = true) (hsw : swapsWith (.Call (.Attribute (.Name x xp) name apos) (e :: es) [] cpos) none pos.line X.env = pure false) :
    PS X (.Expr (.Call (.Attribute (.Name x xp) name apos) (e :: es) [] cpos) pos) (tM R (.meth i G irs)) := by
  obtain ⟨r, hmt, hr⟩ := hm
  rw [List.all_cons, Bool.and_eq_true] at hs
  have hv : PE X (.Name x xp) (tVar i) := by
    unfold okVar at hx
    simp only [Bool.and_eq_true, Bool.not_eq_true', beq_iff_eq] at hx
    obtain ⟨⟨⟨⟨h1, h2⟩, h3⟩, h4⟩, h5⟩ := hx
    exact pe_var (i := i) (by rw [B.nN]; exact h1) (by rw [B.nsc]; exact vis_of h2) h4 h5
  refine PSmono (ps_expr (pe_bm PySem.F.plainAttrs_list slot hty hmt hv ha hbase hfew hline (star_cons hs.1) (star_any hs.2)) hsw) fun D σ H ⟨w, Γ, M, hw, b, o⟩ => ?_
  subst hw
  have o : OutS R w (match slotAt Γ i with
    | .own (.lst xs) => Pk.vS (evs irs Γ M) Γ fun ds M => match G (.lst xs) ds with
      | some (_, y) => .next (Pk.setO Γ i y) M
      | none => .stuck
    | _ => .stuck) D := o
  obtain ⟨xs, hsl⟩ : ∃ xs, slotAt Γ i = .own (.lst xs) := by
    cases q : slotAt Γ i with
    | own dd =>
      cases dd with
      | lst xs => exact ⟨xs, rfl⟩
      | _ => rw [q] at o; exact o.elim
    | _ => rw [q] at o; exact o.elim
  rw [hsl] at o
  have hΓ : Γ[i]? = some (.own (.lst xs)) := by
    unfold slotAt at hsl
    rw [List.getD_eq_getElem?_getD] at hsl
    cases q : Γ[i]? with
    | none => rw [q] at hsl; cases hsl
    | some s => rw [q] at hsl; exact congrArg some hsl
  obtain ⟨p, hp, hz, h0, nk, nT, vs, hl, ra⟩ := b.own i _ hΓ
  refine ⟨.ref p, hp, .inl ⟨rfl, vs, .of hl⟩, w, Γ, M, [], rfl, b, (OutS.vS b o).imp fun ds M1 w1 e1 b1 o1 as rs => ?_⟩
  cases hg : G (.lst xs) ds with
  | none => rw [hg] at o1; exact o1.elim
  | some yy =>
    obtain ⟨u, y⟩ := yy
    rw [hg] at o1
    have hl1 : w1.H p = some (.lst vs) := e1.keep p _ hl nk
    have hz1 : w1.Z p := e1.z2 p hz
    have hf : ∀ o u, w1.H p ≠ some (.frz o u) := fun o u => by rw [hl1]; simp
    refine hr w1 p vs xs as ds _ y u hl1 (ra.ext e1) rs hg fun vs' ys hy ra' => ?_
    subst hy
    have o1 : ∀ σ' w', Pres w1 w' → Bears R w' σ' (Pk.setO Γ i (.lst ys)) M1 [] → D.nx σ' w'.H := o1
    exact o1 σ (w1.at p (.lst vs')) (Pres.wrZ hz1 hf) (b1.writeOwn hΓ hp hf ⟨vs', upd_same, ra'.wr hz1 hf⟩)
end

/-! ### values and new lists side by side -/
inductive MixR (K : PySem.W.Frag) (ca : String → Addr) (w : Wd) : List Bool → List V → List D → List Addr → Prop
  | nil : MixR K ca w [] [] [] []
  | val {v d fl vs ds ps} : Rp K ca w false v d → MixR K ca w fl vs ds ps → MixR K ca w (false :: fl) (v :: vs) (d :: ds) ps
  | own {p d fl vs ds ps} : OwnC K ca w p d → p ∉ w.κ → MixR K ca w fl vs ds ps → MixR K ca w (true :: fl) (.ref p :: vs) (d :: ds) (p :: ps)
theorem MixR.len {K : PySem.W.Frag} {ca : String → Addr} {w : Wd} {fl : List Bool} {vs : List V} {ds : List D} {ps : List Addr} (h : MixR K ca w fl vs ds ps) : vs.length = fl.length ∧ ds.length = fl.length := by
  induction h with
  | nil => exact ⟨rfl, rfl⟩
  | val _ _ ih => exact ⟨by simp [ih.1], by simp [ih.2]⟩
  | own _ _ _ ih => exact ⟨by simp [ih.1], by simp [ih.2]⟩
theorem MixR.at {K : PySem.W.Frag} {ca : String → Addr} {w : Wd} {a : Addr} {o : HO} (hp : w.H a = none) {fl : List Bool} {vs : List V} {ds : List D} {ps : List Addr} (h : MixR K ca w fl vs ds ps) : MixR K ca (w.at a o) fl vs ds ps := by
  induction h with
  | nil => exact .nil
  | val r _ ih => exact .val (r.ext (Ext.at hp)) ih
  | own r n _ ih => exact .own (r.ext (Ext.at hp) n) n ih
section
variable {R : Rd0} {w w' : Wd} {σ : L2.St} {Γ : Env} {M M' : Mem} {T T' : List Addr} {p : Addr} {d d' : D} {i : Nat}
theorem Bears.perm (s : Bears R w σ Γ M T) (h : T.Perm T') : Bears R w σ Γ M T' :=
  ⟨s.ext, s.zt0, s.zt, s.len, s.val, fun i d q => by
    obtain ⟨a, h1, h2, h3, h4, h5, h6⟩ := s.own i d q
    exact ⟨a, h1, h2, h3, h4, fun z => h5 (h.mem_iff.mpr z), h6⟩, s.mu, s.apart, fun a q => s.tmp a (h.mem_iff.mpr q), h.nodup_iff.mp s.tnd, s.mem⟩
theorem OutR.pop {α : Type} {r : Res α} {Q : α → Mem → Wd → Prop} (h : OutR R σ Γ T w r Q) : OutR R σ Γ (p :: T) w r Q := by
  cases r with
  | ok a M => exact fun w' e b => h w' e b.pop
  | err x M => exact fun cls dx w' e b => h cls dx w' e b.pop
  | stuck => exact h
def tMx (R : Rd0) (fl : List Bool) (irs : Exs) : TA := fun σ H Q => ∃ w Γ M T, w.H = H ∧ Bears R w σ Γ M T ∧
  OutR R σ Γ T w (evs irs Γ M) fun ds M' w' => ∀ vs ps, MixR R.K R.ca w' fl vs ds ps → (∀ p ∈ ps, w.H p = none) → Bears R w' σ Γ M' (ps ++ T) → Q vs w'.H
/-- stores one behind the other -/
def setAll (σ : L2.St) : List Nat → List V → L2.St
  | i :: is, v :: vs => setAll (σ.set i (some v)) is vs
  | _, _ => σ
def muOk (mu : List Nat) : List Bool → List Nat → Bool
  | false :: fl, _ :: is => muOk mu fl is
  | true :: fl, i :: is => mu.contains i && muOk mu fl is
  | [], [] => true
  | _, _ => false
theorem store_mix {fl : List Bool} {vs : List V} {ds : List D} {ps : List Addr} (h : MixR R.K R.ca w fl vs ds ps) : ∀ {is : List Nat} {σ : L2.St} {Γ : Env}, muOk R.mu fl is = true → Bears R w σ Γ M (ps ++ T) →
    ∃ Γ', asgAts (atsOf fl is) ds Γ M = .next Γ' M ∧ Bears R w (setAll σ is vs) Γ' M T := by
  induction h with
  | nil => intro is σ Γ hl b; cases is with
    | nil => exact ⟨Γ, rfl, b⟩
    | cons _ _ => cases hl
  | @val v d fl vs ds ps r _ ih =>
    intro is σ Γ hl b
    cases is with
    | nil => cases hl
    | cons i is => exact ih (is := is) (σ := σ.set i (some v)) (Γ := Pk.setN Γ i d) hl (b.setN i r)
  | @own p d fl vs ds ps oc n _ ih =>
    intro is σ Γ hl b
    cases is with
    | nil => cases hl
    | cons i is =>
      have hl : (R.mu.contains i && muOk R.mu fl is) = true := hl
      rw [Bool.and_eq_true] at hl
      exact ih (is := is) (σ := σ.set i (some (.ref p))) (Γ := Pk.setO Γ i d) hl.2 (Bears.setO (T := ps ++ T) b i (by simpa using hl.1) oc)
end

section
variable {S : Sx} {k : Nat} {ca : String → Addr} {X : Cx} {R : Rd0} {e : Expr} {es : List Expr} {ia : Ex} {irs : Exs} {fl : List Bool}
theorem mx_nil : PA X [] (tMx R [] .nil) := PAmono pa_nil fun σ H Q ⟨w, Γ, M, T, hw, sr, o⟩ => by
  subst hw
  exact OutR.here (a := ([] : List D)) o sr [] [] .nil (fun _ h => nomatch h) sr
theorem mx_val (ha : PE X e (tE R false ia)) (hr : PA X es (tMx R fl irs)) (hs : noStar e = true) : PA X (e :: es) (tMx R (false :: fl) (.cons ia irs)) :=
  PAmono (pa_cons ha hr (star_cons hs)) fun σ H Q ⟨w, Γ, M, T, hw, sr, o⟩ => by
    subst hw
    have o : OutR R σ Γ T w (bnd (ev ia Γ M) fun d M => bnd (evs irs Γ M) fun ds M => .ok (d :: ds) M) _ := o
    refine ⟨w, Γ, M, T, rfl, sr, o.bnd.imp fun d M1 w1 e1 b1 o1 v r => ?_⟩
    refine ⟨w1, Γ, M1, T, rfl, b1, o1.bnd.imp fun ds M2 w2 e2 b2 o2 vs ps hm hp hb => ?_⟩
    exact OutR.here (a := d :: ds) o2 b2 (v :: vs) ps (.val (r.ext e2) hm) (fun p h => e1.nn (hp p h)) hb
theorem mx_own (ha : PE X e (tF R ia)) (hr : PA X es (tMx R fl irs)) (hs : noStar e = true) : PA X (e :: es) (tMx R (true :: fl) (.cons ia irs)) :=
  PAmono (pa_cons ha hr (star_cons hs)) fun σ H Q ⟨w, Γ, M, T, hw, sr, o⟩ => by
    subst hw
    have o : OutR R σ Γ T w (bnd (ev ia Γ M) fun d M => bnd (evs irs Γ M) fun ds M => .ok (d :: ds) M) _ := o
    refine ⟨w, Γ, M, T, rfl, sr, o.bnd.imp fun d M1 w1 e1 b1 o1 p hp b1' oc => ?_⟩
    refine ⟨w1, Γ, M1, p :: T, rfl, b1', (o1.bnd).pop.imp fun ds M2 w2 e2 b2 o2 vs ps hm hps hb => ?_⟩
    have nk : p ∉ w1.κ := (b1'.tmp p List.mem_cons_self).2.2
    refine OutR.here (a := d :: ds) o2 b2.pop (.ref p :: vs) (p :: ps) (.own (oc.ext e2 nk) (b2.tmp p List.mem_cons_self).2.2 hm) (fun q h => ?_) (hb.perm List.perm_middle)
    rcases List.mem_cons.mp h with rfl | h
    · exact hp
    · exact e1.nn (hps q h)

/-! ### a, b = x, y -/
variable {i j l : Nat} {x y z : Str} {a b c : Expr} {px py pz pt pos pt2 : Pos} {kt k2 : Nat}
/-- which names are stored from the right, where a tuple's display is taken apart at once -/
def swF (sc : Scope) (ts vs : List Expr) : Option (Option (List Str)) :=
  if !(ts.length == 2 || ts.length == 3) || vs.length != ts.length then some none
  else if vs.any (fun | .Starred .. => true | _ => false) then some none
  else
    let line := (ts.head?.map (·.pos.line)).getD 0
    let names := ts.filterMap fun
      | .Name id pos => if sc.names.lookup id == some .local && pos.line == line then some id else none
      | _ => none
    if names.length != ts.length || names.eraseDups.length != names.length then some none
    else if vs.all (foldedForSure 8) then some none
    else if vs.all (constantsAlone 8) then none
    else some (some names)
theorem sw_of (B : Bd S k ca X R) (hst : S.st = true) {ts vs : List Expr} {r : Option (List Str)} (h : swF S.sc ts vs = some r) : swappedStores [.Tuple ts kt pt] (.Tuple vs k2 pt2) X.env = pure r := by
  unfold swF at h
  unfold swappedStores
  have e : ∀ id, X.env.kindOf id = S.sc.names.lookup id := fun id => by unfold PySem.Env.kindOf; rw [B.nsc]
  have eb : (X.env.blockKind != .function) = false := by rw [B.bk hst]; rfl
  simp only [eb, Bool.or_false, e]
  split at h
  · rename_i c
    refine (if_pos ?_).trans ?_
    · exact c
    · cases h; rfl
  · rename_i c
    refine (if_neg ?_).trans ?_
    · exact c
    · split at h
      · rename_i c
        refine (if_pos ?_).trans ?_
        · exact c
        · cases h; rfl
      · rename_i c
        refine (if_neg ?_).trans ?_
        · exact c
        · dsimp only at h
          split at h
          · rename_i c
            refine (if_pos ?_).trans ?_
            · exact c
            · cases h; rfl
          · rename_i c
            refine (if_neg ?_).trans ?_
            · exact c
            · split at h
              · rename_i c
                refine (if_pos ?_).trans ?_
                · exact c
                · cases h; rfl
              · rename_i c
                refine (if_neg ?_).trans ?_
                · exact c
                · split at h
                  · cases h
                  · rename_i c
                    refine (if_neg ?_).trans ?_
                    · exact c
                    · cases h; rfl
end
end Pk

set_option Elab.async false
set_option linter.all false
set_option autoImplicit false
set_option maxRecDepth 100000
set_option maxHeartbeats 1000000
/-! Sound14: assignments to several targets; cells. -/
namespace Pk
open PySem PySem.Spec PyProof.Rows L2

section
variable {S : Sx} {k : Nat} {ca : String → Addr} {X : Cx} {R : Rd0} {e : Expr} {es : List Expr} {ia : Ex} {irs : Exs} {fl : List Bool}
variable {i j l : Nat} {x y z : Str} {a b c : Expr} {px py pz pt pos pt2 : Pos} {kt k2 : Nat}
/-- behind the values: the stores -/
theorem par_fin {D : Ends} {σ : L2.St} {w : Wd} {Γ : Env} {M : Mem} {is : List Nat} (b : Bears R w σ Γ M []) (o : OutS R w (evS (.par (atsOf fl is) irs) Γ M) D) (hm : muOk R.mu fl is = true) :
    tMx R fl irs σ w.H fun vs H1 => ∃ w1 Γ' M1, w1.H = H1 ∧ Bears R w1 (setAll σ is vs) Γ' M1 [] ∧ vs.length = fl.length ∧ D.nx (setAll σ is vs) w1.H := by
  have o : OutS R w (Pk.vS (evs irs Γ M) Γ fun ds M => asgAts (atsOf fl is) ds Γ M) D := o
  refine ⟨w, Γ, M, [], rfl, b, (OutS.vS b o).imp fun ds M1 w1 e1 b1 o1 vs ps hmx _ hb => ?_⟩
  obtain ⟨Γ', h1, h2⟩ := store_mix hmx hm hb
  rw [h1] at o1
  have o1 : ∀ σ' w', Pres w1 w' → Bears R w' σ' Γ' M1 [] → D.nx σ' w'.H := o1
  exact ⟨w1, Γ', M1, rfl, h2, hmx.len.1, o1 _ w1 (.refl w1) h2⟩
/-- a, b = x, y: stored from the right -/
theorem s_par2 (B : Bd S k ca X R) (hst : S.st = true) (hx : okTg S i x = true) (hy : okTg S j y = true) (hij : i ≠ j) (hsw : swF S.sc [.Name x px, .Name y py] [a, b] = some (some [x, y])) (lx : S.sc.names.lookup x = some .local) (ly : S.sc.names.lookup y = some .local)
    (hm : muOk S.mu fl [i, j] = true) (ha : PA X [a, b] (tMx R fl irs)) : PS X (.Assign [.Tuple [.Name x px, .Name y py] kt pt] (.Tuple [a, b] k2 pt2) pos) (tM R (.par (atsOf fl [i, j]) irs)) := by
  refine PSmono (ps_par B.calm (B.nN ▸ B.nd) (tg_of B hx).1 (tg_of B hy).1 hij (by rw [B.nsc]; exact lx) (by rw [B.nsc]; exact ly) ha (sw_of B hst hsw) rfl) fun D σ H ⟨w, Γ, M, hw, b, o⟩ => ?_
  subst hw
  obtain ⟨w', Γ', M', T', hw, sr, q⟩ := par_fin b o (by rw [B.Rmu]; exact hm)
  refine ⟨w', Γ', M', T', hw, sr, q.imp fun ds M1 w1 e1 b1 q1 vs ps h1 h2 h3 => ?_⟩
  obtain ⟨w2, Γ2, M2, h4, h5, h6, h7⟩ := q1 vs ps h1 h2 h3
  have hl : fl.length = 2 := by
    match fl, hm with
    | [_, _], _ => rfl
    | [true], h => simp [muOk] at h
    | [false], h => cases h
    | [], h => cases h
    | true :: true :: true :: _, h => simp [muOk] at h
    | true :: true :: false :: _, h => simp [muOk] at h
    | true :: false :: true :: _, h => simp [muOk] at h
    | true :: false :: false :: _, h => simp [muOk] at h
    | false :: true :: true :: _, h => simp [muOk] at h
    | false :: true :: false :: _, h => simp [muOk] at h
    | false :: false :: true :: _, h => cases h
    | false :: false :: false :: _, h => cases h
  rw [hl] at h6
  match vs, h6 with
  | [v, u], _ => exact ⟨v, u, rfl, by rw [← h4]; exact h7⟩
theorem fl3 : ∀ {fl : List Bool} {mu : List Nat} {i j l : Nat}, muOk mu fl [i, j, l] = true → fl.length = 3
  | [_, _, _], _, _, _, _, _ => rfl
  | [], _, _, _, _, h => by cases h
  | [true], _, _, _, _, h => by simp [muOk] at h
  | [false], _, _, _, _, h => by cases h
  | [a, b], _, _, _, _, h => by cases a <;> cases b <;> simp [muOk] at h
  | a :: b :: c :: d :: r, _, _, _, _, h => by cases a <;> cases b <;> cases c <;> cases d <;> simp [muOk] at h
theorem s_par3 (B : Bd S k ca X R) (hst : S.st = true) (hx : okTg S i x = true) (hy : okTg S j y = true) (hz : okTg S l z = true) (hij : i ≠ j) (hil : i ≠ l) (hjl : j ≠ l) (hsw : swF S.sc [.Name x px, .Name y py, .Name z pz] [a, b, c] = some (some [x, y, z]))
    (lx : S.sc.names.lookup x = some .local) (ly : S.sc.names.lookup y = some .local) (lz : S.sc.names.lookup z = some .local)
    (hm : muOk S.mu fl [i, j, l] = true) (ha : PA X [a, b, c] (tMx R fl irs)) : PS X (.Assign [.Tuple [.Name x px, .Name y py, .Name z pz] kt pt] (.Tuple [a, b, c] k2 pt2) pos) (tM R (.par (atsOf fl [i, j, l]) irs)) := by
  refine PSmono (ps_par3 B.calm (B.nN ▸ B.nd) (tg_of B hx).1 (tg_of B hy).1 (tg_of B hz).1 hij hil hjl (by rw [B.nsc]; exact lx) (by rw [B.nsc]; exact ly) (by rw [B.nsc]; exact lz) ha (sw_of B hst hsw) rfl) fun D σ H ⟨w, Γ, M, hw, b, o⟩ => ?_
  subst hw
  obtain ⟨w', Γ', M', T', hw, sr, q⟩ := par_fin b o (by rw [B.Rmu]; exact hm)
  refine ⟨w', Γ', M', T', hw, sr, q.imp fun ds M1 w1 e1 b1 q1 vs ps h1 h2 h3 => ?_⟩
  obtain ⟨w2, Γ2, M2, h4, h5, h6, h7⟩ := q1 vs ps h1 h2 h3
  rw [fl3 hm] at h6
  match vs, h6 with
  | [v, u, t], _ => exact ⟨v, u, t, rfl, by rw [← h4]; exact h7⟩

/-! ### targets in general -/
def OutA (R : Rd0) (w : Wd) (T : List Addr) (r : RS) (Q : L2.St → Hp → Prop) : Prop :=
  match r with
  | .next Γ' M' => ∀ σ' w', Pres w w' → Bears R w' σ' Γ' M' T → Q σ' w'.H
  | .err e Γ' M' => ∀ σ' cls dx w', Pres w w' → Bears R w' σ' Γ' M' T → ExR R.K R.ca w' e cls dx → R.W cls dx σ' w'.H
  | _ => False
/-- one target takes a value -/
def gA (R : Rd0) (t : At) : TG := fun v σ H Q => ∃ w Γ M d, w.H = H ∧ Bears R w σ Γ M [] ∧ Rp R.K R.ca w false v d ∧ OutA R w [] (asgAt t d Γ M) Q
def gAs (R : Rd0) (ts : Ats) : TGs := fun vs σ H Q => ∃ w Γ M ds, w.H = H ∧ Bears R w σ Γ M [] ∧ RpAll R.K R.ca w vs ds ∧ OutA R w [] (asgAts ts ds Γ M) Q
theorem OutA.fwd {w w1 : Wd} {T : List Addr} {r : RS} {Q : L2.St → Hp → Prop} (h : OutA R w T r Q) (p : Pres w w1) : OutA R w1 T r Q := by
  cases r with
  | next Γ M => exact fun σ' w' q => h σ' w' (p.trans q)
  | err e Γ M => exact fun σ' cls dx w' q => h σ' cls dx w' (p.trans q)
  | _ => exact h
theorem OutA.vS {α : Type} {x : Res α} {f : α → Mem → RS} {w : Wd} {σ : L2.St} {Γ : Env} {M : Mem} {Q : L2.St → Hp → Prop} (b : Bears R w σ Γ M []) (h : OutA R w [] (Pk.vS x Γ f) Q) : OutR R σ Γ [] w x fun a M1 w1 => OutA R w1 [] (f a M1) Q := by
  cases x with
  | ok a M => exact fun w' e s => OutA.fwd (r := f a M) h (e.pres b)
  | err x M => exact fun cls dx w' e s q => h σ cls dx w' (e.pres b) s q
  | stuck => exact h
theorem PGsmono {tg : List Expr} {t t' : TGs} (h : PGs X tg t) (i : ∀ v σ H Q, t' v σ H Q → t v σ H Q) : PGs X tg t' := ⟨fun pins s σ H v u Q I r q => h.run pins s σ H v u Q I r (i v σ H Q q)⟩
theorem ga_name (B : Bd S k ca X R) (h : okTg S i x = true) : PG X (.Name x pos) (gA R (.n i)) := by
  obtain ⟨h1, h2, h3⟩ := tg_of B h
  exact PGmono (pg_name (B.nN ▸ B.nd) h1 h2 h3) fun v σ H Q ⟨w, Γ, M, d, hw, b, r, o⟩ => by
    subst hw
    have o : ∀ σ' w', Pres w w' → Bears R w' σ' (Pk.setN Γ i d) M [] → Q σ' w'.H := o
    exact o _ w (.refl w) (b.setN i r)
theorem gas_nil : PGs X [] (gAs R .nil) := PGsmono pgs_nil fun vs σ H Q ⟨w, Γ, M, ds, hw, b, r, o⟩ => by
  subst hw
  cases r with
  | nil =>
    have o : ∀ σ' w', Pres w w' → Bears R w' σ' Γ M [] → Q σ' w'.H := o
    exact ⟨rfl, o σ w (.refl w) b⟩
  | cons _ _ => exact (show False from o).elim
theorem gas_cons {t : At} {ts : Ats} (h1 : PG X e (gA R t)) (h2 : PGs X es (gAs R ts)) (hs : (assignEach (e :: es) X.env).map (·.2) = assign e X.env :: (assignEach es X.env).map (·.2)) : PGs X (e :: es) (gAs R (.cons t ts)) :=
  PGsmono (pgs_cons h1 h2 hs) fun vs σ H Q ⟨w, Γ, M, ds, hw, b, r, o⟩ => by
    subst hw
    cases r with
    | nil => exact (show False from o).elim
    | @cons v vs d ds r1 rr =>
      refine ⟨v, vs, rfl, w, Γ, M, d, rfl, b, r1, ?_⟩
      have o : OutA R w [] (match asgAt t d Γ M with
        | .next Γ M => asgAts ts ds Γ M
        | x => x) Q := o
      revert o
      cases asgAt t d Γ M with
      | next Γ' M' => exact fun o σ' w' p b' => ⟨w', Γ', M', ds, rfl, b', rr.pres p, OutA.fwd (r := asgAts ts ds Γ' M') o p⟩
      | err e Γ' M' => exact id
      | ret d M' => exact id
      | brk Γ' M' => exact id
      | cont Γ' M' => exact id
      | stuck => exact id
/-- a cell is written -/
theorem Bears.cellSet {w2 : Wd} {σ : L2.St} {Γ : Env} {M2 : Mem} {T : List Addr} {a : Nat} {p : Addr} {o : HO} {c' : Cell} (b2 : Bears R w2 σ Γ M2 T) (hκ2 : w2.κ[a]? = some p) (hf : ∀ o u, w2.H p ≠ some (.frz o u)) (hc : CellC R.K R.ca (w2.at p o) p c') :
    Bears R (w2.at p o) σ Γ (M2.set a c') T := by
  have hin : p ∈ w2.κ := List.mem_of_getElem? hκ2
  have hz : w2.Z p := b2.mem.z p hin
  refine ⟨⟨b2.ext.κ, b2.ext.z, b2.ext.z2, fun q u h n => ?_, fun q h => ?_⟩, b2.zt0, fun q h => ?_, b2.len, fun q d h => ?_, fun q d h => ?_, b2.mu, b2.apart, b2.tmp, b2.tnd, ?_, b2.mem.nd, b2.mem.z, fun q c h => ?_⟩
  · have hne : q ≠ p := fun e => by
      subst e
      obtain ⟨more, hm1, hm2⟩ := b2.ext.κ
      rw [hm1] at hin
      rcases List.mem_append.mp hin with z | z
      · exact n z
      · rw [hm2 _ z] at h; cases h
    exact (upd_ne hne).trans (b2.ext.keep q u h n)
  · show upd w2.H p _ q ≠ none
    unfold upd
    split
    · simp
    · exact b2.ext.there q h
  · show upd w2.H p _ q ≠ none
    unfold upd
    split
    · simp
    · exact b2.zt q h
  · obtain ⟨u, g1, g2⟩ := b2.val q d h
    exact ⟨u, g1, g2.wr hz hf⟩
  · obtain ⟨u, g1, g2, g3, g4, g5, g6⟩ := b2.own q d h
    exact ⟨u, g1, g2, g3, g4, g5, g6.wr (fun e => g4 (e ▸ hin)) hz hf⟩
  · rw [List.length_set]; exact b2.mem.len
  · rw [List.getElem?_set] at h
    by_cases hq : a = q
    · subst hq
      rw [if_pos rfl] at h
      split at h
      · cases h
        exact ⟨p, hκ2, hc⟩
      · cases h
    · rw [if_neg hq] at h
      obtain ⟨u, g1, g2⟩ := b2.mem.at_ q c h
      have ne : u ≠ p := fun e => by
        subst e
        obtain ⟨la, ea⟩ := List.getElem?_eq_some_iff.mp hκ2
        obtain ⟨lq, eq⟩ := List.getElem?_eq_some_iff.mp g1
        exact hq ((List.getElem_inj b2.mem.nd).mp (ea.trans eq.symm))
      refine ⟨u, g1, ?_⟩
      cases c with
      | lst ds => obtain ⟨us, x, rr⟩ := g2; exact ⟨us, (upd_ne ne).trans x, rr.wr hz hf⟩
      | ins c ns ds => obtain ⟨dx, fs, x, kk, rr⟩ := g2; exact ⟨dx, fs, (upd_ne ne).trans x, kk, rr.wr hz hf⟩
/-- a cell's item -/
theorem ga_cell (B : Bd S k ca X R) {o i : Expr} {io ii : Ex} (ho : PE X o (tE R true io)) (hi : PE X i (tE R true ii))
    (ha : ∀ v, assign (.Subscript o i pos) X.env v = (do
      let ov ← holding [v] (eval o X.env)
      let iv ← holding [v, ov] (eval i X.env)
      standAt pos
      holding [v, ov, iv] (setItem ov iv v)
      release [v, ov, iv] [])) : PG X (.Subscript o i pos) (gA R (.sc io ii)) :=
  PGmono (pg_sub ho hi set_list ha) fun v σ H Q ⟨w, Γ, M, d, hw, b, r, o⟩ => by
    subst hw
    have o : OutA R w [] (Pk.vS (ev io Γ M) Γ fun rr M => Pk.vS (ev ii Γ M) Γ fun kk M => match rr with
      | .ref a => match M[a]? with
        | some c => match cellSet c kk d with
          | some c' => .next Γ (M.set a c')
          | none => .stuck
        | none => .stuck
      | _ => .stuck) Q := o
    refine ⟨w, Γ, M, [], rfl, b, (OutA.vS b o).imp fun rr M1 w1 e1 b1 o1 vr q => ?_⟩
    refine ⟨w1, Γ, M1, [], rfl, b1, (OutA.vS b1 o1).imp fun kk M2 w2 e2 b2 o2 vk qk => ?_⟩
    cases rr with
    | ref a =>
      cases q with
      | @ref _ p _ hκ =>
      have hκ2 : w2.κ[a]? = some p := by
        obtain ⟨m, qm, _⟩ := e2.κ
        rw [qm, List.getElem?_append_left (by rcases List.getElem?_eq_some_iff.mp hκ with ⟨z, _⟩; exact z)]
        exact hκ
      have o2 : OutA R w2 [] (match M2[a]? with
        | some c => match cellSet c kk d with
          | some c' => .next Γ (M2.set a c')
          | none => .stuck
        | none => .stuck) Q := o2
      cases hM : M2[a]? with
      | none => rw [hM] at o2; exact o2.elim
      | some c =>
        rw [hM] at o2
        have o2 : OutA R w2 [] (match cellSet c kk d with
          | some c' => .next Γ (M2.set a c')
          | none => .stuck) Q := o2
        cases hc : cellSet c kk d with
        | none => rw [hc] at o2; exact o2.elim
        | some c' =>
          rw [hc] at o2
          cases c with
          | ins _ _ _ => cases hc
          | lst xs =>
          obtain ⟨i, rfl⟩ : ∃ i, kk = .int i := by
            cases kk with
            | int i => exact ⟨i, rfl⟩
            | _ => cases hc
          cases qk
          obtain ⟨p', h1, vs, h2, ra⟩ := b2.mem.at_ a _ hM
          rw [hκ2] at h1
          cases h1
          have hc : (match Pk.ixN xs.length i with
            | some j => some (Cell.lst (xs.set j d))
            | none => none) = some c' := hc
          cases hx : Pk.ixN xs.length i with
          | none => rw [hx] at hc; cases hc
          | some j =>
            rw [hx] at hc
            cases hc
            have hin : p ∈ w2.κ := List.mem_of_getElem? hκ2
            have hz : w2.Z p := b2.mem.z p hin
            have hf : ∀ o u, w2.H p ≠ some (.frz o u) := fun o u => by rw [h2]; simp
            have rd : Rp R.K R.ca w2 false v d := (r.ext e1).ext e2
            refine ⟨p, vs, i, j, rfl, rfl, h2, by rw [ra.length]; exact hx, ?_⟩
            have o2 : ∀ σ' w', Pres w2 w' → Bears R w' σ' Γ (M2.set a (.lst (xs.set j d))) [] → Q σ' w'.H := o2
            exact o2 σ (w2.at p (.lst (vs.set j v))) (Pres.wrZ hz hf) (b2.cellSet hκ2 hf ⟨_, upd_same, (RpAll.set rd j ra).wr hz hf⟩)
    | _ => exact (show False from o2).elim
/-- a store does not leave -/
def stays : RS → Prop
  | .ret _ _ => False
  | .brk _ _ => False
  | .cont _ _ => False
  | _ => True
theorem stays_vS {α : Type} {x : Res α} {Γ : Env} {f : α → Mem → RS} (h : ∀ a M, stays (f a M)) : stays (Pk.vS x Γ f) := by
  cases x with
  | ok a M => exact h a M
  | err e M => trivial
  | stuck => trivial
theorem asg_stays (t : At) (d : D) (Γ : Env) (M : Mem) : stays (asgAt t d Γ M) := by
  cases t with
  | n i => trivial
  | o i => trivial
  | so i ix =>
    show stays (match slotAt Γ i with
      | .own (.lst xs) => Pk.vS (ev ix Γ M) Γ fun k M => match ownSet (.lst xs) k d with
        | some y => .next (setO Γ i y) M
        | none => .stuck
      | _ => .stuck)
    split
    · exact stays_vS fun k M => by (repeat' split) <;> trivial
    · trivial
  | sc b ix => exact stays_vS fun r M => stays_vS fun k M => by (repeat' split) <;> trivial
  | ac cs b f => exact stays_vS fun r M => by (repeat' split) <;> trivial
  | ao i f => unfold asgAt; (repeat' split) <;> trivial
  | t ts => trivial
theorem asgs_stay : ∀ (ts : Ats) (ds : List D) (Γ : Env) (M : Mem), stays (asgAts ts ds Γ M)
  | .nil, [], _, _ => trivial
  | .nil, _ :: _, _, _ => trivial
  | .cons _ _, [], _, _ => trivial
  | .cons a r, d :: ds, Γ, M => by
    show stays (match asgAt a d Γ M with
      | .next Γ M => asgAts r ds Γ M
      | x => x)
    have := asg_stays a d Γ M
    revert this
    cases asgAt a d Γ M with
    | next Γ' M' => exact fun _ => asgs_stay r ds Γ' M'
    | _ => exact id
theorem OutS.toA {w : Wd} {r : RS} {D : Ends} (h : OutS R w r D) (hs : stays r) : OutA R w [] r D.nx := by
  cases r with
  | next Γ M => exact h
  | err e Γ M => exact h
  | ret _ _ => exact hs.elim
  | brk _ _ => exact hs.elim
  | cont _ _ => exact hs.elim
  | stuck => exact h
/-- target = value -/
theorem s_asg1 {t : At} {tg : Expr} (ht : ∀ ts, t ≠ .t ts) (hg : PG X tg (gA R t)) (he : PE X e (tE R false ia)) (hs : swapsWithSole [tg] e pos.line X.env = pure false) (hw : swappedStores [tg] e X.env = pure none) (h1 : (assignEach [tg] X.env).map (·.2) = [assign tg X.env]) : PS X (.Assign [tg] e pos) (tM R (.asg t ia)) :=
  PSmono (ps_asg he hg hs hw h1) fun D σ H ⟨w, Γ, M, hw, b, o⟩ => by
    subst hw
    have o : OutS R w (Pk.vS (ev ia Γ M) Γ fun d M => asgAt t d Γ M) D := by
      cases t with
      | t ts => exact absurd rfl (ht ts)
      | _ => exact o
    exact ⟨w, Γ, M, [], rfl, b, (OutS.vS b o).imp fun d M1 w1 e1 b1 o1 v r => ⟨w1, Γ, M1, d, rfl, b1, r, o1.toA (asg_stays t d Γ M1)⟩⟩
/-- a, b, .. = a tuple -/
theorem s_asgT (B : Bd S k ca X R) {ts : Ats} (hg : PGs X es (gAs R ts)) (he : PE X e (tE R false ia)) (hn : (assignEach es X.env).length = ts.len) (hst : (assignEach es X.env).findIdx? (·.1) = none)
    (hs : swapsWithSole [.Tuple es kt pt] e pos.line X.env = pure false) (hw : swappedStores [.Tuple es kt pt] e X.env = pure none) (h1 : (assignEach [.Tuple es kt pt] X.env).map (·.2) = [assign (.Tuple es kt pt) X.env]) :
    PS X (.Assign [.Tuple es kt pt] e pos) (tM R (.asg (.t ts) ia)) :=
  PSmono (ps_asg he (pg_tup B.calm hg hn hst) hs hw h1) fun D σ H ⟨w, Γ, M, hw, b, o⟩ => by
    subst hw
    have o : OutS R w (Pk.vS (ev ia Γ M) Γ fun d M => match d with
      | .tup ds => if ds.length = ts.len then asgAts ts ds Γ M else .stuck
      | _ => .stuck) D := o
    refine ⟨w, Γ, M, [], rfl, b, (OutS.vS b o).imp fun d M1 w1 e1 b1 o1 v r => ?_⟩
    obtain ⟨ds, rfl⟩ : ∃ ds, d = .tup ds := by
      cases d with
      | tup ds => exact ⟨ds, rfl⟩
      | _ => exact (show False from o1).elim
    have o1 : OutS R w1 (if ds.length = ts.len then asgAts ts ds Γ M1 else .stuck) D := o1
    by_cases c : ds.length = ts.len
    · rw [if_pos c] at o1
      obtain ⟨a, vs, rfl, h, ra⟩ := rp_tup r
      exact ⟨a, vs, rfl, B.RK ▸ h, by rw [ra.length]; exact c, w1, Γ, M1, ds, rfl, b1, ra, o1.toA (asgs_stay ts ds Γ M1)⟩
    · rw [if_neg c] at o1; exact o1.elim

/-! ### cells -/
theorem Bears.cell {w : Wd} {σ : L2.St} {Γ : Env} {M : Mem} {T : List Addr} {p : Addr} {vs : List V} {ds : List D} (s : Bears R w σ Γ M T) (hp : w.H p = none) (r : RpAll R.K R.ca w vs ds) :
    ∃ w', w'.H = upd w.H p (.lst vs) ∧ Ext w w' ∧ Bears R w' σ Γ (M ++ [.lst ds]) T ∧ w'.κ[M.length]? = some p := by
  have nk : p ∉ w.κ := fun h => s.zt p (s.mem.z p h) hp
  have e : Ext w { κ := w.κ ++ [p], Z := fun a => w.Z a ∨ a = p, H := upd w.H p (.lst vs) } := by
    refine ⟨⟨[p], rfl, fun a h => by rw [List.mem_singleton.mp h]; exact hp⟩, fun a h => ?_, fun a h => .inl h, fun a o h _ => ?_, fun a h => ?_⟩
    · rcases h with h | h
      · exact .inl h
      · exact .inr (h ▸ hp)
    · show upd w.H p _ a = some o
      rw [upd_ne (ne_of_none h hp)]; exact h
    · show upd w.H p _ a ≠ none
      unfold upd
      split
      · simp
      · exact h
  refine ⟨_, rfl, e, ?_, by show (w.κ ++ [p])[M.length]? = some p; rw [← s.mem.len]; simp⟩
  refine s.call e ⟨by simp [s.mem.len], ?_, fun a h => ?_, fun k c h => ?_⟩ (fun a h => ?_)
  · show (w.κ ++ [p]).Nodup
    exact List.nodup_append.mpr ⟨s.mem.nd, by simp, fun a ha b hb => by rw [List.mem_singleton.mp hb]; exact fun e => nk (e ▸ ha)⟩
  · rcases List.mem_append.mp h with h | h
    · exact .inl (s.mem.z a h)
    · exact .inr (List.mem_singleton.mp h)
  · by_cases hk : k < M.length
    · rw [List.getElem?_append_left hk] at h
      obtain ⟨a, h1, h2⟩ := s.mem.at_ k c h
      refine ⟨a, by rw [List.getElem?_append_left (by rw [s.mem.len]; exact hk)]; exact h1, ?_⟩
      have ne : a ≠ p := fun e => nk (e ▸ List.mem_of_getElem? h1)
      cases c with
      | lst ds => obtain ⟨us, x, rr⟩ := h2; exact ⟨us, (upd_ne ne).trans x, rr.ext e⟩
      | ins c ns ds => obtain ⟨dx, fs, x, kk, rr⟩ := h2; exact ⟨dx, fs, (upd_ne ne).trans x, kk, rr.ext e⟩
    · rw [List.getElem?_append_right (by omega)] at h
      have hk0 : k - M.length = 0 := by
        cases hq : k - M.length with
        | zero => rfl
        | succ n => rw [hq] at h; simp at h
      rw [hk0] at h
      cases h
      have : k = M.length := by omega
      subst this
      exact ⟨p, by rw [← s.mem.len]; simp, vs, upd_same, r.ext e⟩
  · rcases h with h | h
    · show upd w.H p _ a ≠ none
      unfold upd
      split
      · simp
      · exact s.zt a h
    · show upd w.H p _ a ≠ none
      rw [h, upd_same]; simp
/-- [..], a list that is shared and changed -/
theorem e_cell {zz : Bool} (ha : PA X es (tA R false irs)) (hl : irs.len ≤ 1000) : PE X (.List es pos) (tE R zz (.app pCell irs)) :=
  PE.up <| PEmono (pe_lst ha) fun σ H Q ⟨w, Γ, M, T, hw, sr, o⟩ => by
    subst hw
    refine ⟨w, Γ, M, T, rfl, sr, (app_evs o).imp fun ds M1 w1 e1 b1 ⟨hd, o1⟩ vs rs => ⟨?_, fun p hp => ?_⟩⟩
    · rw [rs.length, hd, sizeLine_eq]; omega
    · obtain ⟨w2, hw2, e2, b2, hk⟩ := b1.cell hp rs.down
      have o1 : OutR R σ Γ T w1 (.ok (D.ref M1.length) (M1 ++ [.lst ds])) _ := o1
      rw [← hw2]
      exact o1 w2 e2 b2 _ (.ref hk)
end
end Pk

set_option Elab.async false
set_option linter.all false
set_option autoImplicit false
set_option maxRecDepth 100000
set_option maxHeartbeats 1000000
/-! Sound15: comprehensions of two loops. -/
namespace Pk
open PySem PySem.Spec PyProof.Rows L2

/-- a turn of the outer loop -/
def turnC2 (own : List Nat) (tg : Tg) (c : Ex) (own2 : List Nat) (tg2 : Tg) (it2 c2 el : Ex) (Γ : Env) (x : D) (M : Mem) : Res (List D) := match asgTg tg x (wipeE Γ own) with
  | none => .stuck
  | some Γ1 => bnd (ev c Γ1 M) fun b M => bnd (asBool b M) fun t M => if t then
      bnd (ev it2 Γ1 M) fun d2 M => match items d2 with
        | none => .stuck
        | some ds2 => compL (turnC own2 tg2 c2 el Γ1) ds2 M
    else .ok [] M
theorem turnC2_ok {own own2 : List Nat} {tg tg2 : Tg} {c it2 c2 el : Ex} {Γ : Env} {x : D} {M M2 : Mem} {ys : List D} (h : turnC2 own tg c own2 tg2 it2 c2 el Γ x M = .ok ys M2) :
    ∃ Γ1 t M1, asgTg tg x (wipeE Γ own) = some Γ1 ∧ ev c Γ1 M = .ok (.bl t) M1 ∧ ((t = true ∧ ∃ d2 M3 ds2, ev it2 Γ1 M1 = .ok d2 M3 ∧ items d2 = some ds2 ∧ compL (turnC own2 tg2 c2 el Γ1) ds2 M3 = .ok ys M2) ∨ (t = false ∧ ys = [] ∧ M2 = M1)) := by
  unfold turnC2 at h
  cases q : asgTg tg x (wipeE Γ own) with
  | none => rw [q] at h; cases h
  | some Γ1 =>
    rw [q] at h
    obtain ⟨d, M1, h1, h⟩ := bnd_okE h
    obtain ⟨t, M1', h2, h⟩ := bnd_okE h
    cases d with
    | bl u =>
      cases h2
      cases t with
      | true =>
        rw [if_pos rfl] at h
        obtain ⟨y, M3, h3, h⟩ := bnd_okE h
        cases hi : items y with
        | none => rw [hi] at h; cases h
        | some ds2 =>
          rw [hi] at h
          exact ⟨Γ1, true, _, rfl, h1, .inl ⟨rfl, y, M3, ds2, h3, hi, h⟩⟩
      | false =>
        rw [if_neg Bool.false_ne_true] at h
        cases h
        exact ⟨Γ1, false, _, rfl, h1, .inr ⟨rfl, rfl, rfl⟩⟩
    | _ => cases h2

section
variable {S : Sx} {k : Nat} {ca : String → Addr} {X : Cx} {R : Rd0} {tg e el tg1 e1 : Expr} {ifs ifs1 : List Expr} {scope : Scope} {own : List (Str × Nat)} {vs1 : List Nat} {pos : Pos} {it c iel it2 c2 : Ex} {tg' tg2' : Tg}
/-- [el for tg in e if c for tg1 in e1 if c2]: a new list -/
theorem f_lc2 (B : Bd S k ca X R) (hi : PI X tg e (tI R true it)) (ok : blkB S scope own = true) (hv : vs1.all (fun i => (own.map (·.2)).contains i) = true)
    (hg : ∀ (s : Shared) (H : Hp) (C : Addr) (cl : List (Str × Addr)) (fp : List Addr), PG (X.blk s H scope (compEnvC scope cl C X.env) fp) tg (gT R.cold tg'))
    (ht : ∀ (s : Shared) (H : Hp) (C : Addr) (cl : List (Str × Addr)) (fp : List Addr), PTs (X.blk s H scope (compEnvC scope cl C X.env) fp) ifs (tT R.cold c))
    (hi1 : ∀ (s : Shared) (H : Hp) (C : Addr) (cl : List (Str × Addr)) (fp : List Addr), PI (X.blk s H scope (compEnvC scope cl C X.env) fp) tg1 e1 (tI R.cold false it2))
    (hg1 : ∀ (s : Shared) (H : Hp) (C : Addr) (cl : List (Str × Addr)) (fp : List Addr), PG (X.blk s H scope (compEnvC scope cl C X.env) fp) tg1 (gT R.cold tg2'))
    (ht1 : ∀ (s : Shared) (H : Hp) (C : Addr) (cl : List (Str × Addr)) (fp : List Addr), PTs (X.blk s H scope (compEnvC scope cl C X.env) fp) ifs1 (tT R.cold c2))
    (he : ∀ (s : Shared) (H : Hp) (C : Addr) (cl : List (Str × Addr)) (fp : List Addr), PE (X.blk s H scope (compEnvC scope cl C X.env) fp) el (tE R.cold false iel))
    (hsub : (tgSlots tg').all (fun i => (own.map (·.2)).contains i) = true) (hsub1 : (tgSlots tg2').all (fun i => vs1.contains i) = true)
    (hs : ∀ x, foldedSetIterable e X.env x = pure x := by intro _; rfl) (hs1 : ∀ env x, foldedSetIterable e1 env x = pure x := by intro _ _; rfl) :
    PE X (.ListComp el [⟨tg, e, ifs, 0⟩, ⟨tg1, e1, ifs1, 0⟩] scope pos) (tF R (.comp2 (own.map (·.2)) tg' it c vs1 tg2' it2 c2 iel)) := by
  refine PEmono (pe_lc2 B.calm (B.nN ▸ B.nd) hi (blk_ok B ok) (vs1 := vs1) (fun i h => by have := List.all_eq_true.mp hv i h; simpa using this) hg ht hi1 hg1 ht1 he hs hs1) fun σ H Q ⟨w, Γ, M, T, hw, sr, o⟩ => ?_
  generalize hvs : own.map (·.2) = vs at *
  subst hw
  have o : OutR R σ Γ T w (bnd (ev it Γ M) fun d M => match items d with
    | none => .stuck
    | some ds => noErr (bnd (compL (turnC2 vs tg' c vs1 tg2' it2 c2 iel Γ) ds M) fun ys M => if ys.length ≤ 1000000 then Res.ok (D.lst ys) M else Res.stuck)) _ := o
  refine ⟨w, Γ, M, T, rfl, sr, o.bnd.imp fun d M1 w1 ex1 b1 o1 => ?_⟩
  cases hit : items d with
  | none => rw [hit] at o1; exact o1.elim
  | some ds =>
    rw [hit] at o1
    obtain ⟨d', Mf, hd', o1⟩ := noErr_okE o1
    obtain ⟨ys, M2, hc, e0⟩ := bnd_okE hd'
    have hlen : ys.length ≤ 1000000 := Classical.byContradiction fun n => by rw [if_neg n] at e0; cases e0
    rw [if_pos hlen] at e0
    cases e0
    have hz : sizeLine = 16777216 := sizeLine_eq
    refine ⟨ds, rfl, fun J _ y D hD => ⟨fun i m H' => ∃ w' M' zs acc accd, w'.H = H' ∧ Ext w1 w' ∧ Bears R w' σ Γ M' (D :: T) ∧ i + m = ds.length ∧ w'.H D = some (.lst acc) ∧ RpAll R.K R.ca w' acc accd ∧
      compL (turnC2 vs tg' c vs1 tg2' it2 c2 iel Γ) (ds.drop i) M' = .ok zs Mf ∧ accd ++ zs = ys, ⟨ds.length, w1.own D (.lst []), M1, ys, [], [], rfl, Ext.own hD, b1.push hD, by omega, upd_same, .nil, by simpa using hc, rfl⟩, ?_⟩⟩
    rintro i m H' ⟨w', M', zs, acc, accd, rfl, e', b', hm, hDl, ra, hcl, hys⟩
    obtain ⟨y1, y2⟩ := y w' e' b'.zok
    have nκ : D ∉ w'.κ := (b'.tmp D List.mem_cons_self).2.2
    by_cases hl : i = ds.length
    · subst hl
      refine .inl ⟨y1, ?_⟩
      rw [List.drop_length] at hcl
      cases hcl
      rw [List.append_nil] at hys
      subst hys
      exact o1 w' e' b'.pop D (ex1.nn hD) b' ⟨acc, hDl, ra⟩
    · have hlt : i < ds.length := by omega
      have hd : ds[i]? = some ds[i] := List.getElem?_eq_getElem hlt
      rw [List.drop_eq_getElem_cons hlt] at hcl
      obtain ⟨ys1, M2, zs2, hF, hrest, hz2⟩ := compL_cons hcl
      obtain ⟨Γ1, t, M5, hasg, hev, hres⟩ := turnC2_ok hF
      obtain ⟨go, yl⟩ := y2 i ds[i] hd
      let Nx : Hp → Prop := fun H2 => ∃ w' M' zs acc accd, w'.H = H2 ∧ Ext w1 w' ∧ Bears R w' σ Γ M' (D :: T) ∧ i + 1 + (m - 1) = ds.length ∧ w'.H D = some (.lst acc) ∧ RpAll R.K R.ca w' acc accd ∧
        compL (turnC2 vs tg' c vs1 tg2' it2 c2 iel Γ) (ds.drop (i + 1)) M' = .ok zs Mf ∧ accd ++ zs = ys
      refine .inr ⟨go, Nx, fun H2 h => ⟨m - 1, by omega, h⟩, fun x H3 hy => ?_⟩
      obtain ⟨w3, rfl, hw3, rx⟩ := yl x H3 hy
      have b3 : Bears R w3 σ Γ M' (D :: T) := by
        rcases hw3 with rfl | ⟨p, ob, hp, rfl⟩
        · exact b'
        · exact b'.at hp
      have p3 : Ext w' w3 := by
        rcases hw3 with rfl | ⟨p, ob, hp, rfl⟩
        · exact .refl _
        · exact Ext.at hp
      refine ⟨w3, wipeE Γ vs, M', D :: T, ds[i], Γ1, rfl, b3.wipe.cold, rx, hasg, fun σ4 b4 hw4 => ⟨?_, ?_⟩⟩
      · rw [hw4 vs fun j hj => ?_, wipe_wipe]
        have := List.all_eq_true.mp hsub j hj
        simpa using this
      · refine ⟨w3, Γ1, M', D :: T, rfl, b4, ?_⟩
        rw [hev]
        intro w5 e5 b5
        have E5 : Ext w' w5 := p3.trans e5
        have D5 : w5.H D = some (.lst acc) := E5.keep D _ hDl nκ
        rcases hres with ⟨rfl, d2, M6, ds2, hit2, hi2, hin⟩ | ⟨rfl, rfl, rfl⟩
        · refine iteT ⟨w5, Γ1, M5, D :: T, rfl, b5, ?_⟩
          rw [hit2]
          intro w6 e6 b6
          refine ⟨ds2, hi2, fun J1 _ z => ?_⟩
          have E6 : Ext w' w6 := E5.trans e6
          have D6 : w6.H D = some (.lst acc) := E6.keep D _ hDl nκ
          refine ⟨fun j n H' => ∃ w7 M7 zs7 acc7 accd7, w7.H = H' ∧ Ext w1 w7 ∧ (∀ o, w7.H D = o → True) ∧ Bears R.cold w7 σ4 Γ1 M7 (D :: T) ∧ Bears R w7 σ Γ M7 (D :: T) ∧ Yields R.cold false J1 w7 ds2 ∧ j + n = ds2.length ∧ w7.H D = some (.lst acc7) ∧ RpAll R.K R.ca w7 acc7 accd7 ∧
            compL (turnC vs1 tg2' c2 iel Γ1) (ds2.drop j) M7 = .ok zs7 M2 ∧ accd7 ++ (zs7 ++ zs2) = ys, ⟨ds2.length, w6, M6, ys1, acc, accd, rfl, e'.trans E6, fun _ _ => trivial, b6, b'.call E6 b6.mem b6.zt, z, by omega, D6, ra.ext E6, by simpa using hin, by rw [← hys, hz2]⟩, ?_⟩
          rintro j n H' ⟨w7, M7, zs7, acc7, accd7, rfl, e7, _, b7c, b7, z7, hn, hD7, ra7, hcl7, hys7⟩
          obtain ⟨z1, z2⟩ := z7 w7 (Pres.refl w7) b7.zok
          have nκ7 : D ∉ w7.κ := (b7.tmp D List.mem_cons_self).2.2
          by_cases hl7 : j = ds2.length
          · subst hl7
            refine .inl ⟨z1, ?_⟩
            rw [List.drop_length] at hcl7
            cases hcl7
            exact ⟨w7, _, zs2, acc7, accd7, rfl, e7, b7, by omega, hD7, ra7, hrest, by simpa using hys7⟩
          · have hlt7 : j < ds2.length := by omega
            have hd7 : ds2[j]? = some ds2[j] := List.getElem?_eq_getElem hlt7
            rw [List.drop_eq_getElem_cons hlt7] at hcl7
            obtain ⟨ys8, M8, zs8, hF8, hrest8, hz8⟩ := compL_cons hcl7
            obtain ⟨Γ8, t8, M9, hasg8, hev8, hres8⟩ := turnC_ok hF8
            obtain ⟨go8, yl8⟩ := z2 j ds2[j] hd7
            refine .inr ⟨go8, fun H2 => ∃ w7 M7 zs7 acc7 accd7, w7.H = H2 ∧ Ext w1 w7 ∧ (∀ o, w7.H D = o → True) ∧ Bears R.cold w7 σ4 Γ1 M7 (D :: T) ∧ Bears R w7 σ Γ M7 (D :: T) ∧ Yields R.cold false J1 w7 ds2 ∧ j + 1 + (n - 1) = ds2.length ∧ w7.H D = some (.lst acc7) ∧ RpAll R.K R.ca w7 acc7 accd7 ∧
              compL (turnC vs1 tg2' c2 iel Γ1) (ds2.drop (j + 1)) M7 = .ok zs7 M2 ∧ accd7 ++ (zs7 ++ zs2) = ys, fun H2 h => ⟨n - 1, by omega, h⟩, fun x8 H8 hy8 => ?_⟩
            obtain ⟨w9, rfl, hw9, rx9⟩ := yl8 x8 H8 hy8
            have ext9 : Ext w7 w9 := by
              rcases hw9 with rfl | ⟨p, ob, hp, rfl⟩
              · exact .refl _
              · exact Ext.at hp
            have b9c : Bears R.cold w9 σ4 Γ1 M7 (D :: T) := by
              rcases hw9 with rfl | ⟨p, ob, hp, rfl⟩
              · exact b7c
              · exact b7c.at hp
            have b9 : Bears R w9 σ Γ M7 (D :: T) := by
              rcases hw9 with rfl | ⟨p, ob, hp, rfl⟩
              · exact b7
              · exact b7.at hp
            refine ⟨w9, wipeE Γ1 vs1, M7, D :: T, ds2[j], Γ8, rfl, b9c.wipe, rx9, hasg8, fun σ10 b10 hw10 => ⟨?_, ?_⟩⟩
            · rw [hw10 vs1 fun q hq => ?_, wipe_wipe]
              have := List.all_eq_true.mp hsub1 q hq
              simpa using this
            · refine ⟨w9, Γ8, M7, D :: T, rfl, b10, ?_⟩
              rw [hev8]
              intro w11 e11 b11
              have E11 : Ext w7 w11 := ext9.trans e11
              have D11 : w11.H D = some (.lst acc7) := E11.keep D _ hD7 nκ7
              rcases hres8 with ⟨rfl, yv, hel, rfl⟩ | ⟨rfl, rfl, rfl⟩
              · refine iteT ⟨w11, Γ8, M9, D :: T, rfl, b11, ?_⟩
                rw [hel]
                intro w12 e12 b12 v rv
                have E12 : Ext w7 w12 := E11.trans e12
                have D12 : w12.H D = some (.lst acc7) := E12.keep D _ hD7 nκ7
                have nf : ∀ o u, w12.H D ≠ some (.frz o u) := fun o u => by rw [D12]; simp
                have B12 : Bears R w12 σ Γ M8 (D :: T) := b7.call E12 b12.mem b12.zt
                have B12c : Bears R.cold w12 σ4 Γ1 M8 (D :: T) := b7c.call E12 b12.mem b12.zt
                have zD : w12.Z D := (B12.tmp D List.mem_cons_self).1
                have E1 : Ext w1 w12 := e7.trans E12
                have hal : acc7.length + 1 ≤ ys.length := by
                  rw [← hys7, hz8, ra7.length]
                  simp only [List.length_append, List.length_cons, List.length_nil]
                  omega
                refine ⟨acc7, D12, by omega, w12.at D (.lst (acc7 ++ [v])), M8, zs8, acc7 ++ [v], accd7 ++ [yv], rfl, ⟨E1.κ, E1.z, E1.z2, fun a u ha n => (upd_ne (fun q => by rw [q, hD] at ha; cases ha)).trans (E1.keep a u ha n), fun a ha => ?_⟩, fun _ _ => trivial, B12c.write List.mem_cons_self nf, B12.write List.mem_cons_self nf, ?_, by omega, upd_same,
                  RpAll.append (RpAll.wr zD nf (ra7.ext E12)) (.cons (Rp.wr zD nf rv) .nil), hrest8, by rw [← hys7, hz8]; simp⟩
                · show upd w12.H D _ a ≠ none
                  unfold upd
                  split
                  · simp
                  · exact E1.there a ha
                · exact fun w p zk => z7 w (((Ext.pres E12 b7).trans (Pres.wrZ zD nf)).trans p) zk
              · refine iteF ⟨w11, M8, zs8, acc7, accd7, rfl, e7.trans E11, fun _ _ => trivial, b7c.call E11 b11.mem b11.zt, b7.call E11 b11.mem b11.zt, ?_, by omega, D11, ra7.ext E11, hrest8, by rw [← hys7, hz8]; rfl⟩
                exact fun w p zk => z7 w ((Ext.pres E11 b7).trans p) zk
        · refine iteF ⟨w5, M2, zs2, acc, accd, rfl, e'.trans E5, b'.call E5 b5.mem b5.zt, by omega, D5, ra.ext E5, hrest, by rw [← hys, hz2]; rfl⟩
end
end Pk

set_option Elab.async false
set_option linter.all false
set_option autoImplicit false
set_option maxRecDepth 100000
set_option maxHeartbeats 1000000
/-! Sound16: dict comprehensions; names stored by comprehensions on one line. -/
namespace Pk
open PySem PySem.Spec PyProof.Rows L2

def turnD (own : List Nat) (tg : Tg) (c kx vx : Ex) (Γ : Env) (x : D) (M : Mem) : Res (List D) := match asgTg tg x (wipeE Γ own) with
  | none => .stuck
  | some Γ1 => bnd (ev c Γ1 M) fun b M => bnd (asBool b M) fun t M => if t then bnd (ev kx Γ1 M) fun y M => if isKey y then bnd (ev vx Γ1 M) fun z M => .ok [.tup [y, z]] M else .stuck else .ok [] M
theorem turnD_ok {own : List Nat} {tg : Tg} {c kx vx : Ex} {Γ : Env} {x : D} {M M2 : Mem} {ys : List D} (h : turnD own tg c kx vx Γ x M = .ok ys M2) :
    ∃ Γ1 t M1, asgTg tg x (wipeE Γ own) = some Γ1 ∧ ev c Γ1 M = .ok (.bl t) M1 ∧ ((t = true ∧ ∃ y M3 z, ev kx Γ1 M1 = .ok y M3 ∧ isKey y = true ∧ ev vx Γ1 M3 = .ok z M2 ∧ ys = [.tup [y, z]]) ∨ (t = false ∧ ys = [] ∧ M2 = M1)) := by
  unfold turnD at h
  cases q : asgTg tg x (wipeE Γ own) with
  | none => rw [q] at h; cases h
  | some Γ1 =>
    rw [q] at h
    obtain ⟨d, M1, h1, h⟩ := bnd_okE h
    obtain ⟨t, M1', h2, h⟩ := bnd_okE h
    cases d with
    | bl u =>
      cases h2
      cases t with
      | true =>
        rw [if_pos rfl] at h
        obtain ⟨y, M3, h3, h⟩ := bnd_okE h
        by_cases hk : isKey y = true
        · rw [if_pos hk] at h
          obtain ⟨z, M4, h4, h⟩ := bnd_okE h
          cases h
          exact ⟨Γ1, true, _, rfl, h1, .inl ⟨rfl, y, M3, z, h3, hk, h4, rfl⟩⟩
        · rw [if_neg hk] at h; cases h
      | false =>
        rw [if_neg Bool.false_ne_true] at h
        cases h
        exact ⟨Γ1, false, _, rfl, h1, .inr ⟨rfl, rfl, rfl⟩⟩
    | _ => cases h2
section
variable {R : Rd0} {w : Wd}
theorem keyEq_rp {k k' : Key} {d d' : D} (h : RpK k d) (h' : RpK k' d') : keyEq d' d = decide (k' = k) := by
  cases h' with
  | int i =>
    cases h with
    | int j => simp [keyEq]
    | str t => simp [keyEq]
  | str s =>
    cases h with
    | int j => simp [keyEq]
    | str t =>
      have : (sof s = sof t) ↔ s = t := ⟨sof_inj, fun e => by rw [e]⟩
      simp [keyEq, this]
theorem put_rp {k : Key} {kd d : D} {v : V} (hk : RpK k kd) (hv : Rp R.K R.ca w false v d) {kvs : List (Key × V)} {ks vs : List D} (p : Paired RpK (kvs.map (·.1)) ks) (r : RpAll R.K R.ca w (kvs.map (·.2)) vs) :
    Paired RpK ((putK kvs k v).map (·.1)) (dictPut kd d ks vs).1 ∧ RpAll R.K R.ca w ((putK kvs k v).map (·.2)) (dictPut kd d ks vs).2 := by
  have ha : ∀ {kvs : List (Key × V)} {ks : List D}, Paired RpK (kvs.map (·.1)) ks → (kvs.any fun kv => decide (kv.1 = k)) = ks.any (fun k' => keyEq k' kd) := by
    intro kvs
    induction kvs with
    | nil => intro ks p; cases p; rfl
    | cons kv kvs ih =>
      intro ks p
      cases p with
      | cons p1 pp =>
        rw [List.any_cons, List.any_cons, ih pp, keyEq_rp hk p1]
  unfold putK dictPut
  rw [ha p]
  by_cases c : (ks.any fun k' => keyEq k' kd) = true
  · rw [if_pos c, if_pos c]
    clear c
    refine ⟨?_, ?_⟩
    · have : ((kvs.map fun kv => if kv.1 = k then (kv.1, v) else kv).map (·.1)) = kvs.map (·.1) := by
        rw [List.map_map]
        apply List.map_congr_left
        intro kv _
        show (if kv.1 = k then (kv.1, v) else kv).1 = kv.1
        split <;> rfl
      rw [this]; exact p
    · induction kvs generalizing ks vs with
      | nil => cases p; cases r; exact .nil
      | cons kv kvs ih =>
        cases p with
        | cons p1 pp =>
        cases r with
        | cons r1 rr =>
        rename_i kd' ks' d' vs'
        show RpAll R.K R.ca w ((if kv.1 = k then (kv.1, v) else kv).2 :: _) ((if keyEq kd' kd then d else d') :: List.zipWith _ ks' vs')
        rw [keyEq_rp hk p1]
        refine .cons ?_ (ih pp rr)
        by_cases e : kv.1 = k
        · rw [if_pos e, if_pos (by simpa using e)]; exact hv
        · rw [if_neg e, if_neg (by simpa using e)]; exact r1
  · rw [if_neg c, if_neg c]
    rw [List.map_append, List.map_append]
    refine ⟨?_, r.append (.cons hv .nil)⟩
    have app : ∀ {as : List Key} {bs : List D}, Paired RpK as bs → Paired RpK (as ++ [k]) (bs ++ [kd]) := by
      intro as
      induction as with
      | nil => intro bs p; cases p; exact .cons hk .nil
      | cons a as ih => intro bs p; cases p with | cons p1 pp => exact .cons p1 (ih pp)
    exact app p
theorem put_len (k v : D) (ks vs : List D) : (dictPut k v ks vs).1.length ≤ ks.length + 1 := by
  unfold dictPut
  split
  · exact Nat.le_succ _
  · simp
end
section
variable {S : Sx} {k : Nat} {ca : String → Addr} {X : Cx} {R : Rd0} {tg e kx vx : Expr} {ifs : List Expr} {scope : Scope} {own : List (Str × Nat)} {pos : Pos} {it c ik iv : Ex} {tg' : Tg}
/-- {k: v for tg in e if c}: a dict that stays as it is -/
theorem e_dc (B : Bd S k ca X R) (hi : PI X tg e (tI R true it)) (ok : blkB S scope own = true)
    (hg : ∀ (s : Shared) (H : Hp) (C : Addr) (cl : List (Str × Addr)) (fp : List Addr), PG (X.blk s H scope (compEnvC scope cl C X.env) fp) tg (gT R.cold tg'))
    (ht : ∀ (s : Shared) (H : Hp) (C : Addr) (cl : List (Str × Addr)) (fp : List Addr), PTs (X.blk s H scope (compEnvC scope cl C X.env) fp) ifs (tT R.cold c))
    (hk : ∀ (s : Shared) (H : Hp) (C : Addr) (cl : List (Str × Addr)) (fp : List Addr), PE (X.blk s H scope (compEnvC scope cl C X.env) fp) kx (tE R.cold false ik))
    (he : ∀ (s : Shared) (H : Hp) (C : Addr) (cl : List (Str × Addr)) (fp : List Addr), PE (X.blk s H scope (compEnvC scope cl C X.env) fp) vx (tE R.cold false iv))
    (hsub : (tgSlots tg').all (fun i => (own.map (·.2)).contains i) = true) (hs : ∀ x, foldedSetIterable e X.env x = pure x := by intro _; rfl) {z : Bool} :
    PE X (.DictComp kx vx [⟨tg, e, ifs, 0⟩] scope pos) (tE R z (.dcomp (own.map (·.2)) tg' it c ik iv)) := PE.up <| by
  refine ⟨fun pins s σ H Q I h => ?_⟩
  obtain ⟨w, Γ, M, T, hw, sr, o⟩ := h
  generalize hvs : own.map (·.2) = vs at hsub o
  subst hw
  have o : OutR R σ Γ T w (bnd (ev it Γ M) fun d M => match items d with
    | none => .stuck
    | some ds => noErr (bnd (compL (turnD vs tg' c ik iv Γ) ds M) fun ys M => Res.ok (D.dict (ys.foldl putPair ([], [])).1 (ys.foldl putPair ([], [])).2) M)) _ := o
  refine thn ((pe_dc B.calm (B.nN ▸ B.nd) hi (blk_ok B ok) hg ht hk he hs).run pins s σ w.H (fun x H1 => ∃ D kvs, x = .ref D ∧ H1 D = some (.dK kvs) ∧ ∀ od, Q (.ref D) (upd H1 D (.frz od (.dK kvs)))) I ?_) fun v s1 ⟨x, H1, I1, r1, D, kvs, hx, hD, q⟩ => ?_
  · rw [hvs]
    refine ⟨w, Γ, M, T, rfl, sr, o.bnd.imp fun d M1 w1 e1 b1 o1 => ?_⟩
    cases hit : items d with
    | none => rw [hit] at o1; exact o1.elim
    | some ds =>
      rw [hit] at o1
      obtain ⟨d', Mf, hd', o1⟩ := noErr_okE o1
      obtain ⟨ys, M2, hc, e0⟩ := bnd_okE hd'
      cases e0
      refine ⟨ds, rfl, fun J hz y D hD => ⟨fun i m H' => ∃ w' M' zs kvs ks es, w'.H = H' ∧ Ext w1 w' ∧ Bears R w' σ Γ M' (D :: T) ∧ i + m = ds.length ∧ kvs.length ≤ i ∧ w'.H D = some (.dK kvs) ∧ Paired RpK (kvs.map (·.1)) ks ∧ RpAll R.K R.ca w' (kvs.map (·.2)) es ∧
        compL (turnD vs tg' c ik iv Γ) (ds.drop i) M' = .ok zs Mf ∧ zs.foldl putPair (ks, es) = ys.foldl putPair ([], []), ⟨ds.length, w1.own D (.dK []), M1, ys, [], [], [], rfl, Ext.own hD, b1.push hD, by omega, Nat.le_refl _, upd_same, .nil, .nil, by simpa using hc, rfl⟩, ?_⟩⟩
      rintro i m H' ⟨w', M', zs, kvs, ks, es, rfl, e', b', hm, hal, hDl, kk, ra, hcl, hys⟩
      obtain ⟨y1, y2⟩ := y w' e' b'.zok
      have nκ : D ∉ w'.κ := (b'.tmp D List.mem_cons_self).2.2
      by_cases hl : i = ds.length
      · subst hl
        refine .inl ⟨y1, ?_⟩
        rw [List.drop_length] at hcl
        cases hcl
        refine ⟨D, kvs, rfl, hDl, fun od => ?_⟩
        have nf : ∀ o u, w'.H D ≠ some (.frz o u) := fun o u => by rw [hDl]; simp
        have zD : w'.Z D := (b'.tmp D List.mem_cons_self).1
        have b2 := (b'.write (o := .frz od (.dK kvs)) List.mem_cons_self nf).free
        have e2 : Ext w1 ((w'.at D (.frz od (.dK kvs))).free D) := Ext.freed (p := D) b1 ⟨e'.κ, e'.z, e'.z2, fun a u ha n => (upd_ne (fun q => by rw [q, hD] at ha; cases ha)).trans (e'.keep a u ha n), fun a ha => by
          show upd w'.H D _ a ≠ none
          unfold upd
          split
          · simp
          · exact e'.there a ha⟩ hD
        have o1 : ∀ w2, Ext w1 w2 → Bears R w2 σ Γ Mf T → ∀ v, Rp R.K R.ca w2 false v (.dict (ys.foldl putPair ([], [])).1 (ys.foldl putPair ([], [])).2) → Q v w2.H := o1
        refine o1 _ e2 b2 (.ref D) ?_
        rw [← hys]
        exact .dK upd_same nκ kk ((ra.wr zD nf).less (Less.free _ D))
      · have hlt : i < ds.length := by omega
        have hd : ds[i]? = some ds[i] := List.getElem?_eq_getElem hlt
        rw [List.drop_eq_getElem_cons hlt] at hcl
        obtain ⟨ys1, M2, zs2, hF, hrest, hz2⟩ := compL_cons hcl
        obtain ⟨Γ1, t, M5, hasg, hev, hres⟩ := turnD_ok hF
        obtain ⟨go, yl⟩ := y2 i ds[i] hd
        refine .inr ⟨go, fun H2 => ∃ w' M' zs kvs ks es, w'.H = H2 ∧ Ext w1 w' ∧ Bears R w' σ Γ M' (D :: T) ∧ i + 1 + (m - 1) = ds.length ∧ kvs.length ≤ i + 1 ∧ w'.H D = some (.dK kvs) ∧ Paired RpK (kvs.map (·.1)) ks ∧ RpAll R.K R.ca w' (kvs.map (·.2)) es ∧
          compL (turnD vs tg' c ik iv Γ) (ds.drop (i + 1)) M' = .ok zs Mf ∧ zs.foldl putPair (ks, es) = ys.foldl putPair ([], []), fun H2 h => ⟨m - 1, by omega, h⟩, fun x H3 hy => ?_⟩
        obtain ⟨w3, rfl, hw3, rx⟩ := yl x H3 hy
        have b3 : Bears R w3 σ Γ M' (D :: T) := by
          rcases hw3 with rfl | ⟨p, ob, hp, rfl⟩
          · exact b'
          · exact b'.at hp
        have p3 : Ext w' w3 := by
          rcases hw3 with rfl | ⟨p, ob, hp, rfl⟩
          · exact .refl _
          · exact Ext.at hp
        refine ⟨w3, wipeE Γ vs, M', D :: T, ds[i], Γ1, rfl, b3.wipe.cold, rx, hasg, fun σ4 b4 hw4 => ⟨?_, ?_⟩⟩
        · rw [hw4 vs fun j hj => ?_, wipe_wipe]
          have := List.all_eq_true.mp hsub j hj
          simpa using this
        · refine ⟨w3, Γ1, M', D :: T, rfl, b4, ?_⟩
          rw [hev]
          intro w5 e5 b5
          have E5 : Ext w' w5 := p3.trans e5
          have D5 : w5.H D = some (.dK kvs) := E5.keep D _ hDl nκ
          rcases hres with ⟨rfl, yk, M6, yv, hek, hkey, hev2, rfl⟩ | ⟨rfl, rfl, rfl⟩
          · refine iteT ⟨w5, Γ1, M5, D :: T, rfl, b5, ?_⟩
            rw [hek]
            intro w6 e6 b6 vk rk
            refine ⟨w6, Γ1, M6, D :: T, rfl, b6, ?_⟩
            rw [hev2]
            intro w7 e7 b7 v rv
            have E7 : Ext w' w7 := (E5.trans e6).trans e7
            have D7 : w7.H D = some (.dK kvs) := E7.keep D _ hDl nκ
            have B7 : Bears R w7 σ Γ M2 (D :: T) := b'.call E7 b7.mem b7.zt
            have nf : ∀ o u, w7.H D ≠ some (.frz o u) := fun o u => by rw [D7]; simp
            have zD : w7.Z D := (B7.tmp D List.mem_cons_self).1
            have E1 : Ext w1 w7 := e'.trans E7
            obtain ⟨kx, hkx, rfl⟩ := key_of rk hkey
            obtain ⟨g1, g2⟩ := put_rp (R := R) hkx rv kk (ra.ext E7)
            refine ⟨kvs, kx, rfl, D7, by omega, w7.at D (.dK (putK kvs kx v)), M2, zs2, _, _, _, rfl, ⟨E1.κ, E1.z, E1.z2, fun a u ha n => (upd_ne (fun q => by rw [q, hD] at ha; cases ha)).trans (E1.keep a u ha n), fun a ha => ?_⟩, B7.write List.mem_cons_self nf, by omega, ?_, upd_same,
              g1, g2.wr zD nf, hrest, by rw [← hys, hz2]; rfl⟩
            · show upd w7.H D _ a ≠ none
              unfold upd
              split
              · simp
              · exact E1.there a ha
            · have h1 := Paired.length g1
              have h2 := put_len yk yv ks es
              have h3 := Paired.length kk
              simp only [List.length_map] at h1 h3
              omega
          · refine iteF ⟨w5, M2, zs2, kvs, ks, es, rfl, e'.trans E5, b'.call E5 b5.mem b5.zt, by omega, by omega, D5, kk, ra.ext E5, hrest, by rw [← hys, hz2]; rfl⟩
  · subst hx
    obtain ⟨od, I2⟩ := I1.lock hD trivial
    exact ⟨.ref D, _, I2, r1, q od⟩

/-! ### x = [..] on one line -/
variable {el : Expr} {iel : Ex} {i : Nat} {y : Str} {py spos : Pos}
/-- whether the store of a comprehension's value comes ahead of its end -/
theorem sw_lc (B : Bd S k ca X R) (hst : S.st = true) {gs : List Comprehension} : swapsWith (.ListComp el gs scope pos) (some (.Name y py)) spos.line X.env =
    pure (S.sc.names.lookup y == some .local && py.line == pos.line && !(scope.names.any fun (n, k) => n == y && (k == .local || k == .cell))) := by
  unfold swapsWith
  have eb : (X.env.blockKind == .function) = true := by rw [B.bk hst]; rfl
  have ek : X.env.kindOf y = S.sc.names.lookup y := by unfold PySem.Env.kindOf; rw [B.nsc]
  show pure (X.env.blockKind == .function && X.env.kindOf y == some .local && py.line == pos.line && !(scope.names.any fun (n, k) => n == y && (k == .local || k == .cell))) = _
  rw [eb, ek, Bool.true_and]
/-- x = [..] on one line, x a local name: a list that x owns -/
theorem s_lcO (B : Bd S k ca X R) (hst : S.st = true) (hy : okTg S i y = true) (ly : S.sc.names.lookup y = some .local) (hsw : (S.sc.names.lookup y == some .local && py.line == pos.line && !(scope.names.any fun (n, k) => n == y && (k == .local || k == .cell))) = true) (hm : S.mu.contains i = true)
    (hi : PI X tg e (tI R true it)) (ok : blkB S scope own = true)
    (hg : ∀ (s : Shared) (H : Hp) (C : Addr) (cl : List (Str × Addr)) (fp : List Addr), PG (X.blk s H scope (compEnvC scope cl C X.env) fp) tg (gT R.cold tg'))
    (ht : ∀ (s : Shared) (H : Hp) (C : Addr) (cl : List (Str × Addr)) (fp : List Addr), PTs (X.blk s H scope (compEnvC scope cl C X.env) fp) ifs (tT R.cold c))
    (he : ∀ (s : Shared) (H : Hp) (C : Addr) (cl : List (Str × Addr)) (fp : List Addr), PE (X.blk s H scope (compEnvC scope cl C X.env) fp) el (tE R.cold false iel))
    (hsub : (tgSlots tg').all (fun i => (own.map (·.2)).contains i) = true) (hs : ∀ x, foldedSetIterable e X.env x = pure x := by intro _; rfl) :
    PS X (.Assign [.Name y py] (.ListComp el [⟨tg, e, ifs, 0⟩] scope pos) spos) (tM R (.asg (.o i) (.comp (own.map (·.2)) tg' it c iel))) :=
  PSmono (ps_setLc B.calm (B.nN ▸ B.nd) (tg_of B hy).1 (by rw [B.nsc]; exact ly) (by rw [sw_lc B hst, hsw]) hi (blk_ok B ok) hg ht he hs) fun D σ H ⟨w, Γ, M, hw, b, o⟩ => by
    subst hw
    have o : OutS R w (Pk.vS (ev (.comp (own.map (·.2)) tg' it c iel) Γ M) Γ fun d M => asgAt (.o i) d Γ M) D := o
    exact lc_red hsub σ w.H _ ⟨w, Γ, M, [], rfl, b, (OutS.vS b o).imp fun d M1 w1 e1 b1 o1 p hp b2 oc => o1 _ w1 (.refl w1) (b2.setO i (by rw [B.Rmu]; simpa using hm) oc)⟩
/-- .. a value -/
theorem s_lcV (B : Bd S k ca X R) (hst : S.st = true) (hy : okTg S i y = true) (ly : S.sc.names.lookup y = some .local) (hsw : (S.sc.names.lookup y == some .local && py.line == pos.line && !(scope.names.any fun (n, k) => n == y && (k == .local || k == .cell))) = true)
    (hi : PI X tg e (tI R true it)) (ok : blkB S scope own = true)
    (hg : ∀ (s : Shared) (H : Hp) (C : Addr) (cl : List (Str × Addr)) (fp : List Addr), PG (X.blk s H scope (compEnvC scope cl C X.env) fp) tg (gT R.cold tg'))
    (ht : ∀ (s : Shared) (H : Hp) (C : Addr) (cl : List (Str × Addr)) (fp : List Addr), PTs (X.blk s H scope (compEnvC scope cl C X.env) fp) ifs (tT R.cold c))
    (he : ∀ (s : Shared) (H : Hp) (C : Addr) (cl : List (Str × Addr)) (fp : List Addr), PE (X.blk s H scope (compEnvC scope cl C X.env) fp) el (tE R.cold false iel))
    (hsub : (tgSlots tg').all (fun i => (own.map (·.2)).contains i) = true) (hs : ∀ x, foldedSetIterable e X.env x = pure x := by intro _; rfl) :
    PS X (.Assign [.Name y py] (.ListComp el [⟨tg, e, ifs, 0⟩] scope pos) spos) (tM R (.asg (.n i) (.comp (own.map (·.2)) tg' it c iel))) :=
  PSmono (ps_setLc B.calm (B.nN ▸ B.nd) (tg_of B hy).1 (by rw [B.nsc]; exact ly) (by rw [sw_lc B hst, hsw]) hi (blk_ok B ok) hg ht he hs) fun D σ H ⟨w, Γ, M, hw, b, o⟩ => by
    subst hw
    have o : OutS R w (Pk.vS (ev (.comp (own.map (·.2)) tg' it c iel) Γ M) Γ fun d M => asgAt (.n i) d Γ M) D := o
    exact lc_red hsub σ w.H _ (new_red lc_nd ⟨w, Γ, M, [], rfl, b, (OutS.vS b o).imp fun d M1 w1 e1 b1 o1 v r => o1 _ w1 (.refl w1) (b1.setN i r)⟩)
/-- x = e, in short -/
theorem s_setB {ex : Expr} {ie : Ex} (B : Bd S k ca X R) (hy : okTg S i y = true) (he : PE X ex (tE R false ie)) (hs : swapsWith ex (some (.Name y py)) spos.line X.env = pure false) : PS X (.Assign [.Name y py] ex spos) (tM R (.asg (.n i) ie)) := by
  obtain ⟨h1, h2, h3⟩ := tg_of B hy
  exact s_set (B.nN ▸ B.nd) h1 h2 he hs h3
theorem s_ownB {ex : Expr} {ie : Ex} (B : Bd S k ca X R) (hy : okTg S i y = true) (hm : S.mu.contains i = true) (he : PE X ex (tF R ie)) (hs : swapsWith ex (some (.Name y py)) spos.line X.env = pure false) : PS X (.Assign [.Name y py] ex spos) (tM R (.asg (.o i) ie)) := by
  obtain ⟨h1, h2, h3⟩ := tg_of B hy
  exact s_own (B.nN ▸ B.nd) h1 h2 (by rw [B.Rmu]; simpa using hm) he hs h3
end
end Pk

set_option Elab.async false
set_option linter.all false
set_option autoImplicit false
set_option maxRecDepth 100000
set_option maxHeartbeats 1000000
/-! Sound17: enumerate. -/
namespace PySem
open Sem (wp)
open AutoSeq1 (wpAny_loadPart')
theorem meets_enumerate_newT (l : Addr) (items : Array Value) (n : Nat) (dct : Option Addr) (sl : Array (Option Value)) :
    Meets (Builtin.«enumerate.__new__» ⟨[.type "enumerate", .ref l], []⟩) (fun _ R s => s.heap.get? l = some { cls := .type "tuple", dict := dct, data := .seq items n, slots := sl } ∧
      R (.ok (.ret (.ref (s.heap.push { cls := .type "tuple_iterator", data := .fields #[.ref l, .int 0 0] }).objs.size)))
        { s with heap := (s.heap.push { cls := .type "tuple_iterator", data := .fields #[.ref l, .int 0 0] }).push { cls := .type "enumerate", data := .fields #[.none, .bool false, .ref s.heap.objs.size, rawInt 0, .none, .none] } }) :=
  .of_wp fun prog w A R s h => by
    obtain ⟨hp, g, d, tk, os⟩ := s; obtain ⟨hl, h⟩ := h
    have hsub := sub_enumerate
    have hL : Heap.IsTuple (Shared.heap ⟨hp, g, d, tk, os⟩) l items := ⟨_, hl, rfl, n, rfl⟩
    wp_walk using wpAny_loadPart' hl
    refine wpAny_stack_any fun st => wpAny_pure ?_
    split
    · rename_i c _ _ _ _ _
      cases (c == Value.type "enumerate")
      · wp_walk using wpAny_loadPart' hl, wpAny_pyIter_tuple hL
        exact ⟨_, rfl, h⟩
      · wp_walk using wpAny_loadPart' hl, wpAny_pyIter_tuple hL
        exact ⟨_, rfl, h⟩
    · wp_walk using wpAny_loadPart' hl, wpAny_pyIter_tuple hL
      exact ⟨_, rfl, h⟩
section
variable {prog : Program} {w : World} {A : Around} {E : Value → Shared → Prop} {s : Shared}
theorem pyNext_enum_endT {e it t : Addr} {items : Array Value} {i : Nat} {c : Int} {old : Value} {Q : Option Value → Shared → Prop} (hh : A.handled = none)
    (he : IsEnum s.heap e it c old) (hit : s.heap.IsTupleIter it t i) (ht : s.heap.IsTuple t items) (hx : items[i]? = none)
    (hQ : ∀ h', Heap.ExtBut it s.heap h' → Q none { s with heap := h' }) : wpAny (model prog w) A (pyNext (.ref e)) Q E s := by
  have hT : s.TypeIs (.ref e) "enumerate" := ⟨_, he, rfl⟩
  unfold pyNext
  refine wpAny_bind (wpAny_attempt (wpAny_callSpecial?_slot (name := Str.ofString "__next__") hT F.slot_enumerate_next
    (wpAny_call_entry F.slot_enumerate_next hT F.entry_enumerate_next ?_ (F.args_enumerate_next_1 _))))
  show wpAny _ _ (field (.ref e) 2 >>= _) _ _ _
  refine wpAny_bind (wpAny_field he rfl (x := .ref it) rfl ?_)
  refine wpAny_bind (wpAny_nextOf_tuple_end (A := A.in1) hh hit ht hx fun h' x he' hx' => ?_)
  obtain ⟨o, ho, hc⟩ := hx'
  refine wpAny_bind (wpAny_isInstance (T := "StopIteration") (b := true) ⟨o, ho, hc⟩ isSubtype_stop ?_)
  exact wpAny_pure (hQ _ he')
theorem call_enumerate_tup {l : Addr} {items : Array Value} {Q : Value → Shared → Prop} (hL : s.heap.IsTuple l items)
    (h : ∀ h', IsEnum h' (s.heap.objs.size + 1) s.heap.objs.size 0 .none → h'.IsTupleIter s.heap.objs.size l 0 → h'.objs.size = s.heap.objs.size + 2 →
      (∀ b o, s.heap.get? b = some o → h'.get? b = some o) → Q (.ref (s.heap.objs.size + 1)) { s with heap := h' }) :
    wpAny (model prog w) A (call (.type "enumerate") [.ref l]) Q E s := by
  obtain ⟨⟨c, dct, dt, sl⟩, hl, hc, n, hd⟩ := hL
  replace hc : c = .type "tuple" := hc
  replace hd : dt = .seq items n := hd
  subst hc hd
  refine callType_new F.called_enumerate (by decide) (F.typeCall_enumerate_1 _) (F.newCall_enumerate_1 _) (fun obj => F.args_object_init_2 obj _) F.entry_enumerate_new
    (meets_enumerate_newT l items n dct sl) ⟨hl, ?_⟩
  have hz : (s.heap.push { cls := .type "tuple_iterator", data := .fields #[.ref l, .int 0 0] }).objs.size = s.heap.objs.size + 1 := Heap.size_push ..
  show _ ∧ _
  rw [hz]
  have he : IsEnum ((s.heap.push { cls := .type "tuple_iterator", data := .fields #[.ref l, .int 0 0] }).push
      { cls := .type "enumerate", data := .fields #[.none, .bool false, .ref s.heap.objs.size, rawInt 0, .none, .none] }) (s.heap.objs.size + 1) s.heap.objs.size 0 .none := by
    have := Heap.get?_push_size (s.heap.push { cls := .type "tuple_iterator", data := .fields #[.ref l, .int 0 0] })
      (o := { cls := .type "enumerate", data := .fields #[.none, .bool false, .ref s.heap.objs.size, rawInt 0, .none, .none] }) rfl
    rw [hz] at this; exact this
  refine ⟨⟨_, he, rfl⟩, h _ he ⟨_, Heap.get?_push_of_some _ (Heap.get?_push_size _ rfl), rfl, rfl⟩ (by rw [Heap.size_push, hz]) fun b o x => Heap.get?_push_of_some _ (Heap.get?_push_of_some _ x)⟩
end
end PySem

namespace Pk
open PySem PySem.Spec PyProof.Rows L2
/-- enumerate of a tuple: each item in a new pair -/
def IteT (K : PySem.W.Frag) (a : Addr) : It :=
  ⟨fun i H => ∃ (xs : List V) (x : V), SqT K H a xs ∧ xs[i]? = some x, fun i H v H' => ∃ T x, v = .ref T ∧ H T = none ∧ H' = upd H T (.tup [.int (i : Nat), x]) ∧ ∀ xs, SqT K H a xs → xs[i]? = some x, fun i H => ∃ xs : List V, SqT K H a xs ∧ xs.length ≤ i⟩
theorem turn_enumT {P : Program} {w : World} {K : PySem.W.Frag} {elts : List Expr} {kk : Nat} {tpos : Pos} (a e it : Addr) :
    Turn P w K (.Tuple elts kk tpos) (IteT K a) [e, it] e (fun i h => (∃ old, IsEnum h e it ((i : Nat) : Int) old) ∧ h.IsTupleIter it a i ∧ e ≠ it ∧ a ≠ it ∧ a ≠ e) where
  mem := by simp
  obj := fun i h st b hb => by
    obtain ⟨⟨old, he⟩, ⟨o, ho, hc, hd⟩, _⟩ := st
    have e' : b = e ∨ b = it := by simpa using hb
    rcases e' with z | z
    · rw [z]; exact ⟨_, he, fun v q => nomatch q⟩
    · rw [z]; exact ⟨o, ho, fun v q => by rw [hd] at q; cases q⟩
  keep := fun i h h' st k => let ⟨⟨old, he⟩, hi, hne⟩ := st; ⟨⟨old, k e (by simp) _ he⟩, hi.at fun o q => k it (by simp) o q, hne⟩
  item := by
    intro X hP hw hK hc i pins s σ H E I hf st hg
    subst hP hw hK
    obtain ⟨⟨old, he⟩, hit, hne, hai, hae⟩ := st
    obtain ⟨xs, x, hq, hx⟩ := hg
    obtain ⟨its, rv, p, hz⟩ := I.tuple hq
    obtain ⟨u, hu, ru⟩ := rv.get hx
    have hel : e < s.heap.objs.size := Heap.lt_size he
    have hil : it < s.heap.objs.size := by obtain ⟨_, q, _⟩ := hit; exact Heap.lt_size q
    have p : s.heap.IsTuple a its.toArray := p
    have hlt : i < its.toArray.size := by
      have := (List.getElem?_eq_some_iff.mp hu).1
      simpa using this
    refine PySem.wpAny_pyNext_enum_itemD (PySem.Draws.tuple (prog := X.prog) (w := X.w) (A := X.A.in1) (I.ok.hd hc) it a hai its.toArray) he ⟨hit, p⟩ hlt hne (by simp [hne, Ne.symm hae]) fun x' h' tk hP ho hS hT hsz hk => ?_
    have hx' : x' = u := by
      have hP : its.toArray[i]? = some x' := hP
      have : its[i]? = some x' := by simpa using hP
      rw [hu] at this
      cases this
      rfl
    subst hx'
    obtain ⟨hit', hp'⟩ := hS
    refine ⟨_, rfl, wpAny_letOwnedTupleGo_enum (s := { s with heap := h', toks := tk + 1 }) ho fun h'' he' sb => ?_⟩
    have hT2 : h''.get? s.heap.objs.size = some { cls := .type "tuple", data := .seq #[.int i tk, x'] } := (sb.2 _ (Nat.ne_of_gt hel)).trans hT
    have new : ObjOk X.prog X.w (upd H s.heap.objs.size (.tup [.int (i : Nat), x])) h'' s.heap.objs.size (.tup [.int (i : Nat), x]) :=
      ⟨by show 2 ≤ sizeLine; decide, [.int i tk, x'], .cons ⟨_, rfl⟩ (.cons ru .nil), ⟨_, hT2, rfl, _, rfl⟩⟩
    have I1 : Inv X pins σ (upd H s.heap.objs.size (.tup [.int (i : Nat), x])) { s with heap := h'', toks := tk + 1 } :=
      I.turnedNew (ch := [e, it]) (fun b ob hb q => (sb.2 b (fun z => hb (by simp [z]))).trans (hk b ob (fun z => hb (by simp [z])) (fun z => hb (by simp [z])) q)) hf (Nat.le_refl _) new
    refine ⟨.ref s.heap.objs.size, _, I1, rfl, ⟨_, x, rfl, I.hok.fresh (Nat.le_refl _), rfl, fun ys hy => by rw [I.tuple_inj hy hq]; exact hx⟩, ⟨⟨x', ?_⟩, hit'.at fun o q => (sb.2 it (Ne.symm hne)).trans q, hne, hai, hae⟩, fun b hb => ?_⟩
    · have e1 : ((i + 1 : Nat) : Int) = (i : Int) + 1 := by omega
      rw [e1]; exact he'
    · have hb' : b < s.heap.objs.size := by
        have e' : b = e ∨ b = it := by simpa using hb
        rcases e' with z | z
        · rw [z]; exact hel
        · rw [z]; exact hil
      rw [upd_ne (Nat.ne_of_lt hb')]
      exact (hf b hb).1
  done := by
    intro X hP hw hK hc i pins s σ H E I hf st hg
    subst hP hw hK
    obtain ⟨⟨old, he⟩, hit, hne, hai, hae⟩ := st
    obtain ⟨xs, hq, hx⟩ := hg
    obtain ⟨its, rv, p, hz⟩ := I.tuple hq
    obtain ⟨f0, f1, f2, f3, f4, f5⟩ := hf it (by simp)
    have hl := rv.length
    exact PySem.pyNext_enum_endT (I.ok.hd hc) he hit p (by simp; omega) fun h' eb => ⟨rfl, I.turned (t' := s.toks) (fun b o hb q => eb b o hb q) f0 f1 f3 f4 f5⟩
  self := fun A i s Q E st h => let ⟨⟨_, he⟩, _⟩ := st; wpAny_pyIter_enum he h

section
variable {X : Cx} {R : Rd0} {w : Wd} {b : Bool}
theorem enumL_get : ∀ (xs : List D) (c : Int) (i : Nat) (d : D), (enumL c xs)[i]? = some d → ∃ x, xs[i]? = some x ∧ d = .tup [.int (c + i), x]
  | [], _, _, _, h => by cases h
  | x :: xs, c, 0, d, h => by
    have h : some (D.tup [.int c, x]) = some d := h
    cases h
    exact ⟨x, rfl, by simp⟩
  | x :: xs, c, i + 1, d, h => by
    have h : (enumL (c + 1) xs)[i]? = some d := h
    obtain ⟨y, h1, h2⟩ := enumL_get xs (c + 1) i d h
    exact ⟨y, h1, by rw [h2]; congr 3; omega⟩
theorem enumL_len : ∀ (xs : List D) (c : Int), (enumL c xs).length = xs.length
  | [], _ => rfl
  | x :: xs, c => by show (enumL (c + 1) xs).length + 1 = xs.length + 1; rw [enumL_len xs]
/-- a new pair at T -/
theorem pair_at {w1 : Wd} {T : Addr} {v : V} {d : D} {i : Int} (zk : Zok w1) (hT : w1.H T = none) (r : Rp R.K R.ca w1 false v d) :
    Rp R.K R.ca (w1.at T (.tup [.int i, v])) false (.ref T) (.tup [.int i, d]) :=
  .tup (.inl ⟨upd_same, fun h => zk.zt T (zk.z T h) hT, fun z => zk.zt T z hT⟩) (.cons (.int _) (.cons (r.ext (Ext.at hT)) .nil))
theorem yields_enum {a : Addr} {vs : List V} {ds : List D} (h : w.H a = some (.lst vs)) (n : a ∉ w.κ) (z : b = false → ¬ w.Z a) (r : RpAll R.K R.ca w vs ds) : Yields R b (Ite R.K a) w (enumL 0 ds) := by
  intro w1 rel zk
  have h1 := rel_at rel h n z
  refine ⟨⟨vs, .of h1, by rw [r.length, enumL_len]; exact Nat.le_refl _⟩, fun i d hd => ?_⟩
  obtain ⟨x, hx, rfl⟩ := enumL_get ds 0 i d hd
  obtain ⟨v, hv, rv⟩ := (rpall_rel rel r).get hx
  refine ⟨⟨vs, v, .of h1, hv⟩, fun u H' y => ?_⟩
  obtain ⟨T, x', rfl, hT, rfl, y⟩ := y
  have e2 := y vs (.of h1)
  rw [hv] at e2
  cases e2
  exact ⟨w1.at T (.tup [.int (i : Nat), v]), rfl, .inr ⟨T, _, hT, rfl⟩, by rw [Int.zero_add]; exact pair_at zk hT rv⟩
theorem yields_enumT {a : Addr} {vs : List V} {ds : List D} (h : TupA R.K w a vs) (r : RpAll R.K R.ca w vs ds) : Yields R b (IteT R.K a) w (enumL 0 ds) := by
  intro w1 rel zk
  have h1 : SqT R.K w1.H a vs := by
    rcases h with ⟨h, n, z⟩ | h
    · exact .of (rel_at rel h n (fun _ => z))
    · exact .inr h
  refine ⟨⟨vs, h1, by rw [r.length, enumL_len]; exact Nat.le_refl _⟩, fun i d hd => ?_⟩
  obtain ⟨x, hx, rfl⟩ := enumL_get ds 0 i d hd
  obtain ⟨v, hv, rv⟩ := (rpall_rel rel r).get hx
  refine ⟨⟨vs, v, h1, hv⟩, fun u H' y => ?_⟩
  obtain ⟨T, x', rfl, hT, rfl, y⟩ := y
  have e2 := y vs (h1)
  rw [hv] at e2
  cases e2
  exact ⟨w1.at T (.tup [.int (i : Nat), v]), rfl, .inr ⟨T, _, hT, rfl⟩, by rw [Int.zero_add]; exact pair_at zk hT rv⟩
variable {S : Sx} {k : Nat} {ca : String → Addr} {e : Expr} {ie : Ex} {p pos tpos : Pos} {elts : List Expr} {kk : Nat}
/-- enumerate(e), e a list or tuple -/
theorem i_enum (B : Bd S k ca X R) (hg : okGl S "enumerate" = true) (hm : X.mg "enumerate" = none) (he : PE X e (tE R false ie)) (hs : noStar e = true) : PI X (.Tuple elts kk tpos) (.Call (.Name "enumerate" p) [e] [] pos) (tI R false (.app pEnum (.cons ie .nil))) := by
  have hK : X.K = R.K := B.RK.symm
  refine ⟨fun pins s σ H Q I h => ?_⟩
  obtain ⟨w, Γ, M, T, hw, sr, o⟩ := h
  subst hw
  obtain ⟨g1, g2, g3⟩ := gl_of B hg
  have ha : PA X [e] (tCons (tE R false ie) tNil) := pa_cons he pa_nil (star_cons hs)
  refine Call_ (ld_blt I g1 hm boot_enumerate (PyProof.Rows.callWith_type1 (thn (ha.run pos pins s σ w.H (fun vs H1 => ∃ v w1 x ds, vs = [v] ∧ w1.H = H1 ∧ Rp R.K R.ca w1 false v x ∧ (x = .lst ds ∨ x = .tup ds) ∧ ∀ J, (enumL 0 ds).length ≤ sizeLine → Yields R false J w1 (enumL 0 ds) → Q J w1.H) I
    ⟨w, Γ, M, T, rfl, sr, (a1e o).imp fun x M1 w1 e1 b1 o1 v r => ?_⟩) fun us s1 ⟨vs, H1, I1, r1, v, w1, x, ds, hvs, hw1, rp, hx, hq⟩ => ?_) (star_cons hs) rfl))
  · have key : ∀ ds, x = .lst ds ∨ x = .tup ds → (∃ ds', items (D.lst (enumL 0 ds)) = some ds' ∧ ∀ J, ds'.length ≤ sizeLine → Yields R false J w1 ds' → Q J w1.H) → ∃ v' w2 x' ds, [v] = [v'] ∧ w2.H = w1.H ∧ Rp R.K R.ca w2 false v' x' ∧ (x' = .lst ds ∨ x' = .tup ds) ∧ ∀ J, (enumL 0 ds).length ≤ sizeLine → Yields R false J w2 (enumL 0 ds) → Q J w2.H := fun ds hx ⟨ds', h1, h2⟩ => by
      cases h1
      exact ⟨v, w1, x, ds, rfl, rfl, r, hx, h2⟩
    cases x with
    | lst ds => exact key ds (.inl rfl) (OutR.here (a := D.lst (enumL 0 ds)) o1 b1)
    | tup ds => exact key ds (.inr rfl) (OutR.here (a := D.lst (enumL 0 ds)) o1 b1)
    | _ => exact (show False from o1).elim
  · subst hvs hw1
    cases r1 with
    | cons ru rr =>
    cases rr
    rcases hx with rfl | rfl
    · cases rp with
      | lst h n z r =>
      cases ru
      obtain ⟨its, rv, p', hz⟩ := I1.list (.of h)
      refine call_enumerate_list p'.isList fun h' he' hit hsz hk => wpAny_pyIter_enum he' ?_
      have I2 : Inv X pins σ w1.H { s1 with heap := h' } := I1.kept (t' := s1.toks) hk
      refine ⟨s1.heap.objs.size + 1, [s1.heap.objs.size + 1, s1.heap.objs.size], _, _, w1.H, rfl, I2, turn_enum _ (s1.heap.objs.size + 1) s1.heap.objs.size, ⟨⟨.none, he'⟩, hit, Nat.succ_ne_self _⟩, fun b hb => ?_, hq _ (by rw [enumL_len, ← r.length]; exact hz) (hK ▸ yields_enum h n z r)⟩
      have e' : b = s1.heap.objs.size + 1 ∨ b = s1.heap.objs.size := by simpa using hb
      have hle : s1.heap.objs.size ≤ b := by
        rcases e' with z | z
        · rw [z]; exact Nat.le_add_right _ _
        · rw [z]; exact Nat.le_refl _
      exact I1.fpOk hle (I1.hok.fresh hle)
    · cases rp with
      | @tup _ a vs ds h r =>
      cases ru
      obtain ⟨its, rv, p', hz⟩ := I1.tuple (hK ▸ h.sq)
      have p' : s1.heap.IsTuple a its.toArray := p'
      have hla : a < s1.heap.objs.size := by obtain ⟨_, q, _⟩ := p'; exact Heap.lt_size q
      refine PySem.call_enumerate_tup p' fun h' he' hit hsz hk => wpAny_pyIter_enum he' ?_
      have I2 : Inv X pins σ w1.H { s1 with heap := h' } := I1.kept (t' := s1.toks) hk
      refine ⟨s1.heap.objs.size + 1, [s1.heap.objs.size + 1, s1.heap.objs.size], _, _, w1.H, rfl, I2, turn_enumT _ (s1.heap.objs.size + 1) s1.heap.objs.size, ⟨⟨.none, he'⟩, hit, Nat.succ_ne_self _, Nat.ne_of_lt hla, Nat.ne_of_lt (Nat.lt_succ_of_lt hla)⟩, fun b hb => ?_, hq _ (by rw [enumL_len, ← r.length]; exact hz) (hK ▸ yields_enumT h r)⟩
      have e' : b = s1.heap.objs.size + 1 ∨ b = s1.heap.objs.size := by simpa using hb
      have hle : s1.heap.objs.size ≤ b := by
        rcases e' with z | z
        · rw [z]; exact Nat.le_add_right _ _
        · rw [z]; exact Nat.le_refl _
      exact I1.fpOk hle (I1.hok.fresh hle)
end
end Pk

set_option Elab.async false
set_option linter.all false
set_option autoImplicit false
set_option maxRecDepth 100000
set_option maxHeartbeats 1000000
/-! Sound18: sorted(set(xs)). -/
namespace L2
open PySem PySem.Spec PyProof.Rows
section
variable {P : Program} {w : World} {A : Around} {E : Value → Shared → Prop} {s : Shared}
set_option maxRecDepth 100000 in
set_option maxHeartbeats 3200000 in
theorem call_set_lstI {l : Addr} {items : Array Value} (ns : List Int) {Q : Value → Shared → Prop} (hh : A.handled = none) (hl : s.heap.IsList l items) (hit : IntsAre items.toList ns) (hb : ns.length + 1 < scanBound)
    (h : ∀ (h' : Heap) (tk c : Nat), SetR w h' s.heap.objs.size (fun j => decide (j ∈ ns)) c → c ≤ ns.length → (∀ b o, s.heap.get? b = some o → h'.get? b = some o) → Q (.ref s.heap.objs.size) { s with heap := h', toks := tk }) :
    wpAny (model P w) A (call (.type "set") [.ref l]) Q E s := by
  have hisz : items.size = ns.length := by
    have q := IntsAre.length hit
    rw [Array.length_toList] at q
    exact q
  obtain ⟨c, tl, hmro⟩ := F.called_set.mro
  have hmade := F.called_set.made
  have hsub := F.called_set.sub
  refine wpAny_call (codeAny_of_tree ?_)
  show wpAny _ _ (callAny (.type "set") _) _ _ _
  refine wpAny_pure ⟨Code.quiet_builtin _ (by decide +kernel), codeAny_builtin F.entry_type_call ?_⟩
  rw [Around.under_plain (weight_type_call_type "set" [.ref l] []) rfl]
  have h1 := F.called_set.notType
  have h2 := F.called_set.canCreate
  have hct := F.typeCall_set_1 (.ref l)
  repeat (any_goals (first | assumption | wp_step))

  refine codeAny_mono (code_set_led1 (.ref l) (E := E) (Q₁ := fun obj s₁ => obj = .ref s.heap.objs.size ∧ s₁ = { s with heap := s.heap.push { cls := .type "set", dict := none, data := .set #[] 0 (.fresh 0 0 (!w.params.followText "set-order")) } }) ⟨rfl, rfl⟩) fun r s₁ hr => ?_
  cases r with
  | error e => exact hr
  | ok fl =>
    cases fl with
    | ret obj =>
      obtain ⟨rfl, rfl⟩ := hr
      have hS : (s.heap.push { cls := .type "set", dict := none, data := .set #[] 0 (.fresh 0 0 (!w.params.followText "set-order")) }).get? s.heap.objs.size = some { cls := .type "set", dict := none, data := .set #[] 0 (.fresh 0 0 (!w.params.followText "set-order")) } := Heap.get?_push_size _ rfl
      have hT : Shared.TypeIs { s with heap := s.heap.push { cls := .type "set", dict := none, data := .set #[] 0 (.fresh 0 0 (!w.params.followText "set-order")) } } (.ref s.heap.objs.size) "set" := ⟨_, hS, rfl⟩
      have hli := F.called_set.init.lookup
      have hbi := F.called_set.init.bind (.ref s.heap.objs.size)
      repeat (any_goals (first | assumption | wp_step))

      refine codeAny_mono (codeAny_call_builtin (R := wants (fun r s₂ => r = .none ∧ ∃ h' tk c, s₂ = { s with heap := h', toks := tk } ∧ SetR w h' s.heap.objs.size (fun j => decide (j ∈ ns)) c ∧ c ≤ ns.length ∧
          (∀ b o, s.heap.get? b = some o → h'.get? b = some o)) E) F.called_set.init.plain F.entry_set_init (check_set_init_1 hT ?_)) fun r₂ s₂ hr₂ => ?_
      · obtain ⟨ol, hol, hcl, nl, hdl⟩ := hl
        obtain ⟨ocls, odict, odata, oslots⟩ := ol
        simp only at hcl hdl
        subst hcl; subst hdl
        have hol' : (s.heap.push { cls := .type "set", dict := none, data := .set #[] 0 (.fresh 0 0 (!w.params.followText "set-order")) }).get? l = some { cls := .type "list", dict := odict, data := .seq items nl, slots := oslots } := Heap.get?_push_of_some _ hol
        have hsls := F.sub_list_set
        have hslf := F.sub_list_frozenset
        have hne : (Value.type "list" == Value.type "dict") = false := by decide
        have hl1 : (s.heap.push { cls := .type "set", dict := none, data := .set #[] 0 (.fresh 0 0 (!w.params.followText "set-order")) }).IsList l items := ⟨_, hol', rfl, nl, rfl⟩
        unfold Builtin.«set.__init__» noKeywords Builtin.Frozenset.updateFrom
        generalize hPI : pyIter = PI
        wp_walk
        subst hPI

        refine wpAny_pyIter_list hl1 ?_
        refine wpAny_bind (wpAny_runValue ?_)
        have hlS : l < s.heap.objs.size := Heap.lt_size hol
        have hh3 : A.in1.in1.in1.handled = none := by simp [hh]
        have hz1 : (s.heap.push { cls := .type "set", dict := none, data := .set #[] 0 (.fresh 0 0 (!w.params.followText "set-order")) }).objs.size = s.heap.objs.size + 1 := Heap.size_push ..
        have hneI : l ≠ (s.heap.push { cls := .type "set", dict := none, data := .set #[] 0 (.fresh 0 0 (!w.params.followText "set-order")) }).objs.size := by
          rw [Heap.size_push]; exact Nat.ne_of_lt (Nat.lt_succ_of_lt hlS)
        have hSf : s.heap.objs.size ∉ [(s.heap.push { cls := .type "set", dict := none, data := .set #[] 0 (.fresh 0 0 (!w.params.followText "set-order")) }).objs.size, l] := by
          rw [Heap.size_push]; simp only [List.mem_cons, List.mem_singleton, List.not_mem_nil, or_false, not_or]
          exact ⟨Nat.ne_of_lt (Nat.lt_succ_self _), Nat.ne_of_gt hlS⟩
        have hval : ∀ (i : Nat) (v : Value), items[i]? = some v → ∃ k t, ns[i]? = some k ∧ v = .int k t := fun i v hv => by
          have hi : i < ns.length := by rw [← hisz]; exact (Array.getElem?_eq_some_iff.mp hv).1
          obtain ⟨t, e⟩ := PyProof.Rows.IntsAre.int_at hit i v (by rw [Array.getElem?_toList]; exact hv)
          refine ⟨ns[i], t, List.getElem?_eq_getElem hi, ?_⟩
          rw [e, List.getD_eq_getElem?_getD, List.getElem?_eq_getElem hi] <;> rfl
        refine set_update_ints ((Walks.list hh3 _ l hneI items).toS) s.heap.objs.size
          hSf ns hisz hb hval (items.size - 0) 0 _ (by omega) (Nat.zero_le _)
          ⟨⟨_, Heap.get?_push_size _ rfl, rfl, rfl⟩, (hl1.push _)⟩ ?hS0 ?hR
        case hS0 =>
          have hget : ((s.heap.push { cls := .type "set", dict := none, data := .set #[] 0 (.fresh 0 0 (!w.params.followText "set-order")) }).push { cls := .type "list_iterator", data := .fields #[.ref l, .int 0 0] }).get? s.heap.objs.size
              = some { cls := .type "set", dict := none, data := .set #[] 0 (.fresh 0 0 (!w.params.followText "set-order")) } := Heap.get?_push_of_some _ hS
          exact ⟨0, Nat.le_refl 0, setR_new_at hget⟩
        case hR =>
          intro s' c' hm hc' hS'
          obtain ⟨h', g2, d', tk', os'⟩ := s'
          have eg : g2 = s.gens := hm.gens
          have ed : d' = s.drawn := hm.drawn
          have eo : os' = s.os := hm.os
          subst eg; subst ed; subst eo
          show wpAny _ _ _ _ _ _
          refine wpAny_pure ?_
          show wpAny _ _ (ret Value.none) _ _ _
          rw [hisz] at hc'
          refine wpAny_pure ⟨rfl, h', tk', c', rfl, hS', hc', fun b o e => ?_⟩
          have hb0 : b < s.heap.objs.size := Heap.lt_size e
          have hb1 : b ≠ s.heap.objs.size := Nat.ne_of_lt hb0
          have hb2 : b ≠ (s.heap.push { cls := .type "set", dict := none, data := .set #[] 0 (.fresh 0 0 (!w.params.followText "set-order")) }).objs.size := by
            rw [Heap.size_push]; exact Nat.ne_of_lt (Nat.lt_succ_of_lt hb0)
          exact hm.heap b o (by simp only [List.mem_cons, List.mem_singleton, List.not_mem_nil, or_false, not_or]; exact ⟨hb1, hb2⟩) (Heap.get?_push_of_some _ (Heap.get?_push_of_some _ e))

      · cases r₂ with
        | error e => exact hr₂
        | ok fl₂ =>
          cases fl₂ with
          | ret r =>
            obtain ⟨rfl, h', tk, c', rfl, hS', hc', hk'⟩ := hr₂
            repeat (any_goals (first | assumption | wp_step))
            exact h _ _ _ hS' hc' hk'
          | _ => exact hr₂.elim
    | _ => exact hr.elim

end
end L2
namespace Pk
open PySem PySem.Spec PyProof.Rows L2
theorem ded_mem (k : Int) : ∀ xs : List Int, k ∈ dedI xs ↔ k ∈ xs
  | [] => Iff.rfl
  | x :: xs => by
    show k ∈ x :: (dedI xs).filter (fun y => decide (y ≠ x)) ↔ _
    rw [List.mem_cons, List.mem_cons, List.mem_filter, ded_mem k xs]
    by_cases h : k = x <;> simp [h]
theorem ded_nodup : ∀ xs : List Int, (dedI xs).Nodup
  | [] => List.nodup_nil
  | x :: xs => by
    show (x :: (dedI xs).filter (fun y => decide (y ≠ x))).Nodup
    refine List.nodup_cons.mpr ⟨fun h => ?_, (ded_nodup xs).filter _⟩
    have := (List.mem_filter.mp h).2
    simp at this
section
variable {S : Sx} {k : Nat} {ca : String → Addr} {X : Cx} {R : Rd0} {e : Expr} {ie : Ex} {p p2 pos pos2 : Pos} {z : Bool}
/-- sorted(set(xs)), ints -/
theorem e_sortset (B : Bd S k ca X R) (hg : okGl S "sorted" = true) (hm : X.mg "sorted" = none) (hg2 : okGl S "set" = true) (hm2 : X.mg "set" = none) (he : PE X e (tE R true ie)) (hs : noStar e = true) :
    PE X (.Call (.Name "sorted" p) [.Call (.Name "set" p2) [e] [] pos2] [] pos) (tE R z (.app pSortSet (.cons ie .nil))) := PE.up <| by
  refine ⟨fun pins s σ H Q I h => ?_⟩
  obtain ⟨w, Γ, M, T, hw, sr, o⟩ := h
  subst hw
  obtain ⟨g1, g2, g3⟩ := gl_of B hg
  obtain ⟨q1, q2, q3⟩ := gl_of B hg2
  have na := star_cons (es := []) (env := X.env) hs
  refine Call_ (ld_blt I g1 hm (by rfl) ?_)
  refine PyProof.Rows.callWith_builtin1 (PyProof.Rows.args_cons ?_ rfl) rfl rfl
  refine Call_ (ld_blt I q1 hm2 boot_set ?_)
  refine PyProof.Rows.callWith_type1 (PyProof.Rows.args_cons (thn (he.run pins s σ w.H (fun v H1 => ∃ w1 M1 d, w1.H = H1 ∧ Bears R w1 σ Γ M1 T ∧ Rp R.K R.ca w1 true v d ∧ OutR R σ Γ T w1 (pSortSet [d] M1) fun d _ w' => ∀ v, Rp R.K R.ca w' false v d → Q v w'.H) I ⟨w, Γ, M, T, rfl, sr, (a1e o).imp fun d M1 w1 e1 b1 o1 v r => ⟨w1, M1, d, rfl, b1, r, o1⟩⟩) fun v s1 ⟨x, H1, I1, r1, w1, M1, d, hw1, b1, rp, o1⟩ => PyProof.Rows.args_nil ?_) na) na rfl
  subst hw1
  obtain ⟨xs, rfl⟩ : ∃ xs, d = .lst xs := by
    cases d with
    | lst xs => exact ⟨xs, rfl⟩
    | _ => exact (show False from o1).elim
  obtain ⟨a, vs, rfl, ha, ra⟩ := rp_seq rp
  have o1 : OutR R σ Γ T w1 (match Pk.intsL xs with
    | some is => if is.length < 64 then Res.ok (D.lst ((sortI (dedI is)).map D.int)) M1 else Res.stuck
    | none => Res.stuck) _ := o1
  cases hq : Pk.intsL xs with
  | none => rw [hq] at o1; exact o1.elim
  | some is =>
    rw [hq] at o1
    have e := rp_ints ra hq
    subst e
    have o1 : OutR R σ Γ T w1 (if is.length < 64 then Res.ok (D.lst ((sortI (dedI is)).map D.int)) M1 else Res.stuck) _ := o1
    by_cases c : is.length < 64
    · rw [if_pos c] at o1
      cases r1
      obtain ⟨its, rv, pl, hz⟩ := I1.list (.of ha)
      refine L2.call_set_lstI is (I1.ok.hd B.calm) pl.isList (by simpa using L2.intsAre_of rv) (by unfold scanBound; omega) fun h' tk c' hS hc hk => PyProof.Rows.args_nil ?_
      have I2 : Inv X pins σ w1.H { s1 with heap := h', toks := tk } := I1.kept hk
      refine sorted_set hS (I2.ok.hd B.calm) (by omega) fun s' p out cc ns k g oo hp hg' hi hss hmm hl => ?_
      have hlen : (ns.map V.int).length ≤ sizeLine := by rw [List.length_map, hl, sizeLine_eq]; omega
      have hn : w1.H p = none := I2.hok.fresh hp
      have en : ns = sortI (dedI is) := by
        have n1 : ns.Nodup := hss.imp fun h => by omega
        have n2 : (sortI (dedI is)).Nodup := (sortI_perm _).nodup_iff.mpr (ded_nodup is)
        have pm : ns.Perm (sortI (dedI is)) := (List.perm_ext_iff_of_nodup n1 n2).mpr fun k => by
          rw [hmm k, (sortI_perm _).mem_iff, ded_mem]
          simp
        exact sorted_one pm (hss.imp fun h => by omega) (sortI_sorted _)
      subst en
      have J : Inv X pins σ (upd w1.H p (.lst ((sortI (dedI is)).map V.int))) { ({ s1 with heap := h', toks := tk } : Shared) with heap := s'.heap, gens := s'.gens, drawn := s'.drawn, toks := s'.toks } :=
        I2.call (ch := []) (Un.laid k hp hn) (I2.hok.laid k hp ⟨hlen, out.toList, cc, vals_of_ints hi, hg'⟩) (by rw [g]; exact I2.bare) (fun _ z => nomatch z)
      have es : s' = { ({ s1 with heap := h', toks := tk } : Shared) with heap := s'.heap, gens := s'.gens, drawn := s'.drawn, toks := s'.toks } := by
        cases s'
        cases s1
        cases oo
        rfl
      rw [es]
      exact ⟨.ref p, _, J, rfl, OutR.new o1 b1 hn _ (new_lst b1 hn (all_ints _))⟩
    · rw [if_neg c] at o1; exact o1.elim
end
end Pk

set_option Elab.async false
set_option linter.all false
set_option autoImplicit false
set_option maxRecDepth 100000
set_option maxHeartbeats 1000000
/-! Sound19: instances: their attributes. -/
namespace Pk
open PySem PySem.Spec PyProof.Rows L2

theorem ofString_inj {a b : String} (h : Str.ofString a = Str.ofString b) : a = b := by
  rw [ofString_sof, ofString_sof] at h
  have h := sof_inj h
  unfold codes at h
  have inj : ∀ l m : List Char, l.map Char.toNat = m.map Char.toNat → l = m := by
    intro l
    induction l with
    | nil => intro m h; cases m <;> first | rfl | cases h
    | cons x l ih =>
      intro m h
      cases m with
      | nil => cases h
      | cons y m =>
        rw [List.map_cons, List.map_cons] at h
        injection h with h1 h2
        rw [ih m h2, show x = y from Char.ext (UInt32.toNat_inj.mp h1)]
  exact String.toList_inj.mp (inj _ _ h)
section
variable {R : Rd0} {w : Wd}
theorem fget_rp : ∀ {ns : List String} {ds : List D} {fs : List (Str × V)} {f : String} {d : D}, fs.map (·.1) = ns.map Str.ofString → RpAll R.K R.ca w (fs.map (·.2)) ds → fget ns ds f = some d → ∃ v, fs.lookup (Str.ofString f) = some v ∧ Rp R.K R.ca w false v d
  | [], _, _, _, _, _, _, h => by cases h
  | _ :: _, [], _, _, _, _, _, h => by cases h
  | n :: ns, d' :: ds, [], _, _, e, _, _ => by cases e
  | n :: ns, d' :: ds, (k, v) :: fs, f, d, e, r, h => by
    have e : k :: fs.map (·.1) = Str.ofString n :: ns.map Str.ofString := e
    injection e with e1 e2
    have r : RpAll R.K R.ca w (v :: fs.map (·.2)) (d' :: ds) := r
    cases r with
    | cons r1 rr =>
    have h : (if n = f then some d' else fget ns ds f) = some d := h
    rw [List.lookup_cons]
    by_cases c : n = f
    · rw [if_pos c] at h
      cases h
      subst c
      rw [e1, beq_self_eq_true]
      exact ⟨v, rfl, r1⟩
    · rw [if_neg c] at h
      have : (Str.ofString f == k) = false := by
        rw [e1]
        exact beq_false_of_ne fun z => c (ofString_inj z).symm
      rw [this]
      exact fget_rp e2 rr h
theorem fput_rp {f : String} {v : V} {d : D} (hv : Rp R.K R.ca w false v d) : ∀ {ns : List String} {ds : List D} {fs : List (Str × V)}, fs.map (·.1) = ns.map Str.ofString → RpAll R.K R.ca w (fs.map (·.2)) ds →
    (putF (Str.ofString f) v fs).map (·.1) = (fput ns ds f d).1.map Str.ofString ∧ RpAll R.K R.ca w ((putF (Str.ofString f) v fs).map (·.2)) (fput ns ds f d).2
  | [], ds, fs, e, r => by
    cases fs with
    | nil => cases ds <;> exact ⟨rfl, .cons hv .nil⟩
    | cons _ _ => cases e
  | n :: ns, [], fs, e, r => by
    cases fs with
    | nil => cases e
    | cons _ _ => cases r
  | n :: ns, d' :: ds, [], e, _ => by cases e
  | n :: ns, d' :: ds, (k, x) :: fs, e, r => by
    have e : k :: fs.map (·.1) = Str.ofString n :: ns.map Str.ofString := e
    injection e with e1 e2
    have r : RpAll R.K R.ca w (x :: fs.map (·.2)) (d' :: ds) := r
    cases r with
    | cons r1 rr =>
    unfold putF fput
    by_cases c : n = f
    · subst c
      rw [if_pos e1, if_pos rfl]
      exact ⟨by show k :: fs.map (·.1) = Str.ofString n :: ns.map Str.ofString; rw [e1, e2], .cons hv rr⟩
    · rw [if_neg (fun z => c (ofString_inj (e1.symm.trans z))), if_neg c]
      obtain ⟨h1, h2⟩ := fput_rp hv e2 rr
      exact ⟨by show k :: (putF _ v fs).map (·.1) = Str.ofString n :: (fput ns ds f d).1.map Str.ofString; rw [e1, h1], .cons r1 h2⟩
end
section
variable {S : Sx} {k : Nat} {ca : String → Addr} {X : Cx} {R : Rd0} {e o value : Expr} {ie io iv : Ex} {f : String} {pos pos' : Pos} {z : Bool} {cs : List String}
/-- an instance at an address, as a value or a cell -/
theorem ins_at (B : Bd S k ca X R) {w : Wd} {σ : L2.St} {Γ : Env} {M : Mem} {T : List Addr} {v : V} {x : D} {c : String} {ns : List String} {ds : List D} (b : Bears R w σ Γ M T) (r : Rp R.K R.ca w true v x) (h : x = .ins c ns ds ∨ ∃ a, x = .ref a ∧ M[a]? = some (.ins c ns ds)) :
    ∃ a dx fs, v = .ref a ∧ w.H a = some (.ins (ca c) dx fs) ∧ fs.map (·.1) = ns.map Str.ofString ∧ RpAll R.K R.ca w (fs.map (·.2)) ds := by
  rcases h with rfl | ⟨a, rfl, hM⟩
  · cases r with
    | ins h n z kk rr => exact ⟨_, _, _, rfl, B.Rca ▸ h, kk, rr⟩
  · cases r with
    | ref hκ =>
      obtain ⟨p, h1, dx, fs, h2, h3, h4⟩ := b.mem.at_ a _ hM
      rw [hκ] at h1
      cases h1
      exact ⟨_, dx, fs, rfl, B.Rca ▸ h2, h3, h4⟩
/-- e.f -/
theorem e_fld (B : Bd S k ca X R) (he : PE X e (tE R true ie)) (hc : ∀ c ∈ cs, Cls X.K (ca c) ∧ NoAttr X.K (ca c) (Str.ofString f)) (hb : attributeBase e (Str.ofString f) X.env (eval e X.env) = eval e X.env) : PE X (.Attribute e (Str.ofString f) pos) (tE R z (.app (pFld cs f) (.cons ie .nil))) :=
  PE.up <| PEmono (pe_fld he hb) fun σ H Q ⟨w, Γ, M, T, hw, sr, o⟩ => by
    subst hw
    refine ⟨w, Γ, M, T, rfl, sr, (a1e o).imp fun x M1 w1 e1 b1 o1 v r => ?_⟩
    have key : ∀ (c : String) (ns : List String) (ds : List D), (x = .ins c ns ds ∨ ∃ a, x = .ref a ∧ M1[a]? = some (.ins c ns ds)) → OutR R σ Γ T w1 (if cs.contains c then optD (fget ns ds f) M1 else .stuck) (fun d _ w' => ∀ v, Rp R.K R.ca w' false v d → Q v w'.H) →
        ∃ a C dx fs v', v = .ref a ∧ w1.H a = some (.ins C dx fs) ∧ Cls X.K C ∧ NoAttr X.K C (Str.ofString f) ∧ fs.lookup (Str.ofString f) = some v' ∧ Q v' w1.H := fun c ns ds hx o1 => by
      by_cases hcs : cs.contains c = true
      · rw [if_pos hcs] at o1
        obtain ⟨a, dx, fs, rfl, h1, h2, h3⟩ := ins_at B b1 r hx
        cases q : fget ns ds f with
        | none => rw [q] at o1; exact o1.elim
        | some d =>
          rw [q] at o1
          obtain ⟨v', hl, rv⟩ := fget_rp h2 h3 q
          obtain ⟨g1, g2⟩ := hc c (by simpa using hcs)
          exact ⟨a, _, dx, fs, v', rfl, h1, g1, g2, hl, OutR.here (a := d) o1 b1 v' rv⟩
      · rw [if_neg hcs] at o1; exact o1.elim
    cases x with
    | ins c ns ds => exact key c ns ds (.inl rfl) o1
    | ref a =>
      have o1 : OutR R σ Γ T w1 (match M1[a]? with
        | some (.ins c ns vs) => if cs.contains c then optD (fget ns vs f) M1 else .stuck
        | _ => .stuck) _ := o1
      cases q : M1[a]? with
      | none => rw [q] at o1; exact o1.elim
      | some cc =>
        rw [q] at o1
        cases cc with
        | lst _ => exact o1.elim
        | ins c ns ds => exact key c ns ds (.inr ⟨a, rfl, q⟩) o1
    | _ => exact (show False from o1).elim
/-- o.f = value, o an instance that is a cell -/
theorem s_fld (B : Bd S k ca X R) (ho : PE X o (tE R true io)) (hv : PE X value (tE R false iv)) (hc : ∀ c ∈ cs, Cls X.K (ca c) ∧ NoAttr X.K (ca c) (Str.ofString f)) (hs : swapsWith value (some (.Attribute o (Str.ofString f) pos')) pos.line X.env = pure false) :
    PS X (.Assign [.Attribute o (Str.ofString f) pos'] value pos) (tM R (.asg (.ac cs io f) iv)) :=
  PSmono (ps_fld ho hv hs) fun D σ H ⟨w, Γ, M, hw, b, oo⟩ => by
    subst hw
    have oo : OutS R w (Pk.vS (ev iv Γ M) Γ fun d M => asgAt (.ac cs io f) d Γ M) D := oo
    refine ⟨w, Γ, M, [], rfl, b, (OutS.vS b oo).imp fun d M1 w1 e1 b1 o1 v r => ?_⟩
    have o1 : OutS R w1 (Pk.vS (ev io Γ M1) Γ fun rr M => match rr with
      | .ref a => match M[a]? with
        | some (.ins c ns vs) => if cs.contains c ∧ ns.length < 500 then .next Γ (M.set a (.ins c (fput ns vs f d).1 (fput ns vs f d).2)) else .stuck
        | _ => .stuck
      | _ => .stuck) D := o1
    refine ⟨w1, Γ, M1, [], rfl, b1, (OutS.vS b1 o1).imp fun rr M2 w2 e2 b2 o2 vr q => ?_⟩
    cases rr with
    | ref a =>
      have o2 : OutS R w2 (match M2[a]? with
        | some (.ins c ns vs) => if cs.contains c ∧ ns.length < 500 then .next Γ (M2.set a (.ins c (fput ns vs f d).1 (fput ns vs f d).2)) else .stuck
        | _ => .stuck) D := o2
      cases hM : M2[a]? with
      | none => rw [hM] at o2; exact o2.elim
      | some cc =>
        rw [hM] at o2
        cases cc with
        | lst _ => exact o2.elim
        | ins c ns ds =>
          have o2 : OutS R w2 (if cs.contains c ∧ ns.length < 500 then .next Γ (M2.set a (.ins c (fput ns ds f d).1 (fput ns ds f d).2)) else .stuck) D := o2
          by_cases hcs : cs.contains c ∧ ns.length < 500
          · rw [if_pos hcs] at o2
            cases q with
            | @ref _ p _ hκ =>
            obtain ⟨p', h1, dx, fs, h2, h3, h4⟩ := b2.mem.at_ a _ hM
            rw [hκ] at h1
            cases h1
            obtain ⟨g1, g2⟩ := hc c (by simpa using hcs.1)
            have hl : fs.length = ns.length := by simpa using congrArg List.length h3
            have hf : ∀ o u, w2.H p ≠ some (.frz o u) := fun o u => by rw [h2]; simp
            have hz : w2.Z p := b2.mem.z p (List.mem_of_getElem? hκ)
            have rd : Rp R.K R.ca w2 false v d := r.ext e2
            obtain ⟨k1, k2⟩ := fput_rp (f := f) rd h3 h4
            refine ⟨p, ca c, dx, fs, rfl, B.Rca ▸ h2, g1, g2, by omega, ?_⟩
            have o2 : ∀ σ' w', Pres w2 w' → Bears R w' σ' Γ (M2.set a (.ins c (fput ns ds f d).1 (fput ns ds f d).2)) [] → D.nx σ' w'.H := o2
            have := o2 σ (w2.at p (.ins (R.ca c) dx (putF (Str.ofString f) v fs))) (Pres.wrZ hz hf) (b2.cellSet hκ hf ⟨dx, _, upd_same, k1, k2.wr hz hf⟩)
            rw [B.Rca] at this
            exact this
          · rw [if_neg hcs] at o2; exact o2.elim
    | _ => exact (show False from o2).elim
end
end Pk

set_option Elab.async false
set_option linter.all false
set_option autoImplicit false
set_option maxRecDepth 100000
set_option maxHeartbeats 1000000
/-! Sound20: instances made. -/
namespace Pk
open PySem PySem.Spec PyProof.Rows L2

/-- the cell k is none any more -/
structure Unc (w w' : Wd) (k : Nat) : Prop where
  H : w'.H = w.H
  z : ∀ a, w'.Z a → w.Z a
  κ : ∀ a ∈ w'.κ, a ∈ w.κ
  at_ : ∀ (j : Nat) (a : Addr), w.κ[j]? = some a → j ≠ k → w'.κ[j]? = some a
section
variable {K : PySem.W.Frag} {ca : String → Addr} {w w' : Wd} {k : Nat}
theorem TupA.unc {a : Addr} {xs : List V} (l : Unc w w' k) (h : TupA K w a xs) : TupA K w' a xs := by
  rcases h with ⟨h, n, z⟩ | h
  · exact .inl ⟨l.H ▸ h, fun x => n (l.κ _ x), fun x => z (l.z _ x)⟩
  · exact .inr h
mutual
theorem Rp.unc (l : Unc w w' k) : ∀ {b : Bool} {v : V} {d : D}, Rp K ca w b v d → freeD k d = true → Rp K ca w' b v d
  | _, _, _, .non, _ => .non
  | _, _, _, .cls c, _ => .cls c
  | _, _, _, .bl x, _ => .bl x
  | _, _, _, .int i, _ => .int i
  | _, _, _, .str s, _ => .str s
  | _, _, _, .lst h n z r, f => .lst (l.H ▸ h) (fun x => n (l.κ _ x)) (fun q x => z q (l.z _ x)) (RpAll.unc l r f)
  | _, _, _, .tup h r, f => .tup (h.unc l) (RpAll.unc l r f)
  | _, _, _, .scr h r, f => .scr (by
      rcases h with ⟨o, h, n⟩ | h
      · exact .inl ⟨o, l.H ▸ h, fun x => n (l.κ _ x)⟩
      · exact .inr h) (RpAll.unc l r f)
  | _, _, _, .dK h n k r, f => .dK (l.H ▸ h) (fun x => n (l.κ _ x)) k (RpAll.unc l r f)
  | _, _, _, .dO h n k r, f => .dO (l.H ▸ h) (fun x => n (l.κ _ x)) k (RpAll.unc l r f)
  | _, _, _, .ins h n z k r, f => .ins (l.H ▸ h) (fun x => n (l.κ _ x)) (fun q x => z q (l.z _ x)) k (RpAll.unc l r f)
  | _, _, _, .ref h, f => .ref (l.at_ _ _ h (by
      have f : (!(_ == k)) = true := f
      simpa using f))
theorem RpAll.unc (l : Unc w w' k) : ∀ {vs : List V} {ds : List D}, RpAll K ca w vs ds → freeDs k ds = true → RpAll K ca w' vs ds
  | _, _, .nil, _ => .nil
  | _, _, .cons h r, f => by
    have f : (freeD k _ && freeDs k _) = true := f
    rw [Bool.and_eq_true] at f
    exact .cons (Rp.unc l h f.1) (RpAll.unc l r f.2)
end
theorem CellC.unc (l : Unc w w' k) {p : Addr} {c : Cell} (h : CellC K ca w p c) (f : freeC k c = true) : CellC K ca w' p c := by
  cases c with
  | lst ds => obtain ⟨vs, x, r⟩ := h; exact ⟨vs, l.H ▸ x, r.unc l f⟩
  | ins c ns ds => obtain ⟨dx, fs, x, k, r⟩ := h; exact ⟨dx, fs, l.H ▸ x, k, r.unc l f⟩
/-- the world without the last cell -/
def uncW (w0 w : Wd) (x : Addr) : Wd := { κ := w0.κ, Z := fun a => w.Z a ∧ a ≠ x, H := w.H }
end
section
variable {R : Rd0} {w w1 w' : Wd} {σ : L2.St} {Γ : Env} {M M' : Mem} {T : List Addr} {x dx : Addr} {c : String}
/-- the world in which a new instance stands as a cell -/
def mkW (w : Wd) (x dx C : Addr) : Wd := { κ := w.κ ++ [x], Z := fun a => w.Z a ∨ a = x, H := upd (upd w.H dx (.own x)) x (.ins C dx []) }
theorem mkW_ext {C : Addr} (hx : w.H x = none) (hd : w.H dx = none) (hne : dx ≠ x) : Ext w (mkW w x dx C) := by
  refine ⟨⟨[x], rfl, fun a h => by rw [List.mem_singleton.mp h]; exact hx⟩, fun a h => ?_, fun a h => .inl h, fun a o h _ => ?_, fun a h => ?_⟩
  · rcases h with h | h
    · exact .inl h
    · exact .inr (h ▸ hx)
  · show upd (upd w.H dx _) x _ a = some o
    rw [upd_ne (ne_of_none h hx), upd_ne (ne_of_none h hd)]; exact h
  · show upd (upd w.H dx _) x _ a ≠ none
    unfold upd
    split
    · simp
    · split
      · simp
      · exact h
theorem mkW_mem {C : Addr} (b : Bears R w σ Γ M T) (hx : w.H x = none) (hd : w.H dx = none) (hne : dx ≠ x) (hC : R.ca c = C) : MemOk R.K R.ca (mkW w x dx C) (M ++ [.ins c [] []]) := by
  have e := mkW_ext (C := C) hx hd hne
  have nk : x ∉ w.κ := fun h => b.zt x (b.mem.z x h) hx
  refine ⟨by simp [mkW, b.mem.len], ?_, fun a h => ?_, fun k cc h => ?_⟩
  · show (w.κ ++ [x]).Nodup
    exact List.nodup_append.mpr ⟨b.mem.nd, by simp, fun a ha y hy => by rw [List.mem_singleton.mp hy]; exact fun e => nk (e ▸ ha)⟩
  · rcases List.mem_append.mp h with h | h
    · exact .inl (b.mem.z a h)
    · exact .inr (List.mem_singleton.mp h)
  · by_cases hk : k < M.length
    · rw [List.getElem?_append_left hk] at h
      obtain ⟨a, h1, h2⟩ := b.mem.at_ k cc h
      refine ⟨a, by show (w.κ ++ [x])[k]? = some a; rw [List.getElem?_append_left (by rw [b.mem.len]; exact hk)]; exact h1, ?_⟩
      have ha : w.H a ≠ none := b.zt a (b.mem.z a (List.mem_of_getElem? h1))
      have n1 : a ≠ x := fun e => ha (e ▸ hx)
      have n2 : a ≠ dx := fun e => ha (e ▸ hd)
      have key : (mkW w x dx C).H a = w.H a := by show upd (upd w.H dx _) x _ a = _; rw [upd_ne n1, upd_ne n2]
      cases cc with
      | lst ds => obtain ⟨us, y, rr⟩ := h2; exact ⟨us, key.trans y, rr.ext e⟩
      | ins c ns ds => obtain ⟨dx', fs, y, kk, rr⟩ := h2; exact ⟨dx', fs, key.trans y, kk, rr.ext e⟩
    · rw [List.getElem?_append_right (by omega)] at h
      have hk0 : k - M.length = 0 := by
        cases hq : k - M.length with
        | zero => rfl
        | succ n => rw [hq] at h; simp at h
      rw [hk0] at h
      cases h
      have : k = M.length := by omega
      subst this
      exact ⟨x, by show (w.κ ++ [x])[M.length]? = some x; rw [← b.mem.len]; simp, dx, [], by show upd _ x _ x = _; rw [upd_same, hC], rfl, .nil⟩
theorem mkW_zt {C : Addr} (b : Bears R w σ Γ M T) : ∀ a, (mkW w x dx C).Z a → (mkW w x dx C).H a ≠ none := fun a h => by
  show upd (upd w.H dx _) x _ a ≠ none
  unfold upd
  split
  · simp
  · split
    · simp
    · rcases h with h | h
      · exact b.zt a h
      · rename_i h1 _; exact absurd h h1
/-- back from the making: no cell more -/
theorem unc_ok {C : Addr} (b : Bears R w σ Γ M T) (hx : w.H x = none) (hd : w.H dx = none) (hne : dx ≠ x) (e : Ext (mkW w x dx C) w') (m : MemOk R.K R.ca w' M') (z : ∀ a, w'.Z a → w'.H a ≠ none) (hl : M'.length = M.length + 1) (hf : (M'.take M.length).all (freeC M.length) = true) :
    Unc w' (uncW w w' x) M.length ∧ Ext w (uncW w w' x) ∧ MemOk R.K R.ca (uncW w w' x) (M'.take M.length) ∧ (∀ a, (uncW w w' x).Z a → (uncW w w' x).H a ≠ none) ∧ w'.κ[M.length]? = some x := by
  have nk : x ∉ w.κ := fun h => b.zt x (b.mem.z x h) hx
  have eκ : w'.κ = w.κ ++ [x] := by
    obtain ⟨more, h1, _⟩ := e.κ
    have h1 : w'.κ = (w.κ ++ [x]) ++ more := h1
    have h2 := m.len
    rw [h1, hl] at h2
    simp only [List.length_append, List.length_cons, List.length_nil, b.mem.len] at h2
    have : more = [] := List.length_eq_zero_iff.mp (by omega)
    rw [h1, this, List.append_nil]
  have e0 := (mkW_ext (C := C) hx hd hne).trans e
  have u : Unc w' (uncW w w' x) M.length := by
    refine ⟨rfl, fun a h => h.1, fun a h => by rw [eκ]; exact List.mem_append_left _ h, fun j a h hj => ?_⟩
    rw [eκ] at h
    by_cases hk : j < w.κ.length
    · rw [List.getElem?_append_left hk] at h; exact h
    · rw [List.getElem?_append_right (by omega)] at h
      exfalso
      have : j - w.κ.length = 0 := by
        cases hq : j - w.κ.length with
        | zero => rfl
        | succ n => rw [hq] at h; simp at h
      apply hj
      rw [← b.mem.len]
      omega
  refine ⟨u, ⟨⟨[], by simp [uncW], fun _ h => nomatch h⟩, fun a h => ?_, fun a h => ⟨e0.z2 a h, fun q => b.zt a h (q ▸ hx)⟩, fun a o h n => ?_, e0.there⟩, ⟨by rw [List.length_take, hl]; simp [uncW, b.mem.len], b.mem.nd, fun a h => ⟨e0.z2 a (b.mem.z a h), fun q => nk (q ▸ h)⟩, fun k cc h => ?_⟩, fun a h => z a h.1, by rw [eκ, ← b.mem.len]; simp⟩
  · rcases e.z a h.1 with q | q
    · rcases q with q | q
      · exact .inl q
      · exact absurd q h.2
    · exact .inr ((mkW_ext (C := C) hx hd hne).nn q)
  · have n1 : a ∉ w.κ ++ [x] := fun q => by
      rcases List.mem_append.mp q with q | q
      · exact n q
      · rw [List.mem_singleton.mp q, hx] at h; cases h
    refine e.keep a o ?_ n1
    show upd (upd w.H dx _) x _ a = some o
    rw [upd_ne (ne_of_none h hx), upd_ne (ne_of_none h hd)]; exact h
  · have hk : k < M.length := by
      have := (List.getElem?_eq_some_iff.mp h).1
      rw [List.length_take] at this
      omega
    have h' : M'[k]? = some cc := by
      rw [List.getElem?_take_of_lt hk] at h; exact h
    obtain ⟨a, h1, h2⟩ := m.at_ k cc h'
    refine ⟨a, u.at_ k a h1 (by omega), h2.unc u ?_⟩
    exact List.all_eq_true.mp hf cc (List.mem_of_getElem? h)
end

section
variable {X : Cx} {R : Rd0} {k n : Nat} {f C : Addr} {fd : FuncData} {ps ks : List Str} {F : Fn} {c : String}
theorem under_guards {A : Around} {a : Args} (hg : A.guards = some []) : (A.under (.builtin "type.__call__" a)).guards = some [] := by
  have e : (Code.builtin "type.__call__" a).guards = [] := by
    unfold Code.guards
    rw [if_neg]
    simp [Code.isGuard, guardIds]
  unfold Around.under
  show pushGuards (Code.builtin "type.__call__" a).guards A.guards = some []
  rw [e, hg]
  rfl
/-- a class is called: by what its __init__ says -/
theorem make_go {dv : List Value} {ix : List Nat} {dfl : List D} {dvs : List V} (Mm : Mk X.K C f) (G : FnG X.prog X.w X.K X.mg X.base k f fd ps (spF R.K R.ca F ps.length)) (hr : Room (k + 1) X.A) (hg : X.A.guards = some []) (hb : KB X.K fd ps (n + 1) ks dv ix)
    (hd : Vals dvs dv) (hD : ∀ w, RpAll R.K R.ca w dvs dfl) (tk : Takes X R.W) (hC : R.ca c = C)
    {pins : List (Addr × Obj)} {s : Shared} {σ : L2.St} {w : Wd} {Γ : Env} {M : Mem} {T : List Addr} {us ws : List Value} {vs zs : List V} {ds es : List D} {Q : VK} (I : Inv X pins σ w.H s) (b : Bears R w σ Γ M T) (rv : Vals vs us) (rz : Vals zs ws) (rd : RpAll R.K R.ca w vs ds) (re : RpAll R.K R.ca w zs es) (hn : us.length = n) (hk : ws.length = ks.length)
    (h : ∀ x dx, w.H x = none → w.H dx = none → dx ≠ x → match pickF ix dfl F (.ref M.length :: (ds ++ es)) (M ++ [.ins c [] []]) with
      | .ok d M' => ∀ v w', Ext (mkW w x dx C) w' → MemOk R.K R.ca w' M' → (∀ a, w'.Z a → w'.H a ≠ none) → Rp R.K R.ca w' false v d → v = .non ∧ Q (.ref x) w'.H
      | .err e M' => ∀ cls d w', Ext (mkW w x dx C) w' → MemOk R.K R.ca w' M' → (∀ a, w'.Z a → w'.H a ≠ none) → ExR R.K R.ca w' e cls d → R.W cls d σ w'.H
      | .stuck => False) : wpAny (model X.prog X.w) X.A (call (.ref C) us (ks.zip ws)) (EP X pins σ Q) X.xe s := by
  have hx := I.hok.fresh (Nat.le_succ s.heap.objs.size)
  have hdx := I.hok.fresh (Nat.le_refl s.heap.objs.size)
  have hne : s.heap.objs.size ≠ s.heap.objs.size + 1 := Nat.ne_of_lt (Nat.lt_succ_self _)
  have hq := h (s.heap.objs.size + 1) s.heap.objs.size hx hdx hne
  have I2 := Inv.made (C := C) I
  have ex := mkW_ext (C := C) hx hdx hne
  have r1 : Vals (V.ref (s.heap.objs.size + 1) :: vs) (Value.ref (s.heap.objs.size + 1) :: us) := .cons rfl rv
  have r2 : Vals ((V.ref (s.heap.objs.size + 1) :: vs) ++ zs ++ dvs) ((Value.ref (s.heap.objs.size + 1) :: us) ++ ws ++ dv) := (r1.append rz).append hd
  have rp2 : RpAll R.K R.ca (mkW w (s.heap.objs.size + 1) s.heap.objs.size C) ((V.ref (s.heap.objs.size + 1) :: vs) ++ zs ++ dvs) ((D.ref M.length :: ds) ++ es ++ dfl) := by
    refine RpAll.append (RpAll.append (.cons (.ref ?_) (rd.ext ex)) (re.ext ex)) (hD _)
    show (w.κ ++ [s.heap.objs.size + 1])[M.length]? = _
    rw [← b.mem.len]; simp
  have hix : ∀ i ∈ ix, i < ((Value.ref (s.heap.objs.size + 1) :: us) ++ ws ++ dv).length := fun i hi => by
    have := hb.lt i hi
    rw [List.length_append, List.length_append, List.length_cons, hn, hk]; exact this
  have hix2 : ∀ i ∈ ix, i < ((D.ref M.length :: ds) ++ es ++ dfl).length := fun i hi => by
    rw [← rp2.length, r2.length]; exact hix i hi
  have sp : spF R.K R.ca F ps.length (pick .non ix ((V.ref (s.heap.objs.size + 1) :: vs) ++ zs ++ dvs)) (mkW w (s.heap.objs.size + 1) s.heap.objs.size C).H (fun v H2 => v = .non ∧ Q (.ref (s.heap.objs.size + 1)) H2) (fun cls dx H => R.W cls dx σ H) := by
    refine ⟨by unfold pick; rw [List.length_map]; exact hb.plen, mkW w (s.heap.objs.size + 1) s.heap.objs.size C, pick .non ix ((D.ref M.length :: ds) ++ es ++ dfl), M ++ [.ins c [] []], rfl, rp_pick rp2 ix hix2, mkW_mem b hx hdx hne hC, mkW_zt b, ?_⟩
    have hq : match F (pick .non ix ((D.ref M.length :: (ds ++ es)) ++ dfl)) (M ++ [.ins c [] []]) with
      | .ok d M' => ∀ v w', Ext (mkW w (s.heap.objs.size + 1) s.heap.objs.size C) w' → MemOk R.K R.ca w' M' → (∀ a, w'.Z a → w'.H a ≠ none) → Rp R.K R.ca w' false v d → v = .non ∧ Q (.ref (s.heap.objs.size + 1)) w'.H
      | .err e M' => ∀ cls d w', Ext (mkW w (s.heap.objs.size + 1) s.heap.objs.size C) w' → MemOk R.K R.ca w' M' → (∀ a, w'.Z a → w'.H a ≠ none) → ExR R.K R.ca w' e cls d → R.W cls d σ w'.H
      | .stuck => False := hq
    exact hq
  have e1 : (Value.ref (s.heap.objs.size + 1) :: us).length = n + 1 := by rw [List.length_cons, hn]
  refine wpAny_call (make_map (f := f) I.kIn Mm.makes Mm.init (beq_iff_eq.mp Mm.fn) (codeAny_mono (G.run _ X.stack _ _ ⟨Value.ref (s.heap.objs.size + 1) :: us, ks.zip ws⟩ _ _ _ _ (hr.make C us (ks.zip ws)) (under_guards hg)
    (I2.env0.make C us (ks.zip ws)) (hb.to _ (Value.ref (s.heap.objs.size + 1) :: us) ws I2.kIn e1 hk) (vals_pick r2 ix hix) sp) fun r s' hq' => ?_))
  cases r with
  | error e => exact tk e s' (XE.of_call I2 (fun _ _ _ h => h) hq')
  | ok fl =>
    cases fl with
    | ret u =>
      obtain ⟨v, H', I3, rv', ev, q3⟩ := I2.after hq'
      subst ev
      exact ⟨rv', ⟨V.ref (s.heap.objs.size + 1), H', I3, rfl, q3⟩⟩
    | next => exact False.elim hq'
    | brk => exact False.elim hq'
    | cont => exact False.elim hq'
/-- C(..): the instance as a value -/
theorem cal_mkV {dv : List Value} {ix : List Nat} {dfl : List D} {dvs : List V} (Mm : Mk X.K C f) (G : FnG X.prog X.w X.K X.mg X.base k f fd ps (spF R.K R.ca F ps.length)) (hr : Room (k + 1) X.A) (hg : X.A.guards = some []) (hb : KB X.K fd ps (n + 1) ks dv ix)
    (hd : Vals dvs dv) (hD : ∀ w, RpAll R.K R.ca w dvs dfl) (tk : Takes X R.W) (hC : R.ca c = C) : CalR X R (.ref C) n ks (mkV c (pickF ix dfl F)) := by
  intro pins s σ w Γ M T us ws vs zs ds es Q I b rv rz rd re hn hk o
  refine make_go Mm G hr hg hb hd hD tk hC I b rv rz rd re hn hk fun x dx hx hdx hne => ?_
  have o : OutR R σ Γ T w (match pickF ix dfl F (.ref M.length :: (ds ++ es)) (M ++ [.ins c [] []]) with
    | .ok .non M' => match M'[M.length]? with
      | some (.ins c' ns vs) => if M'.length = M.length + 1 ∧ (M'.take M.length).all (freeC M.length) ∧ freeDs M.length vs then Res.ok (D.ins c' ns vs) (M'.take M.length) else Res.stuck
      | _ => Res.stuck
    | .err e M' => if M'.length = M.length + 1 ∧ (M'.take M.length).all (freeC M.length) ∧ freeD M.length e then Res.err e (M'.take M.length) else Res.stuck
    | _ => Res.stuck) _ := o
  revert o
  cases pickF ix dfl F (.ref M.length :: (ds ++ es)) (M ++ [.ins c [] []]) with
  | stuck => exact id
  | err e M' =>
    intro o cls d w' ex m z q
    have o : OutR R σ Γ T w (if M'.length = M.length + 1 ∧ (M'.take M.length).all (freeC M.length) ∧ freeD M.length e then Res.err e (M'.take M.length) else Res.stuck) _ := o
    by_cases cc : M'.length = M.length + 1 ∧ (M'.take M.length).all (freeC M.length) ∧ freeD M.length e
    · rw [if_pos cc] at o
      obtain ⟨u, e2, m2, z2, _⟩ := unc_ok (C := C) b hx hdx hne ex m z cc.1 cc.2.1
      have o : ∀ cls dx w', Ext w w' → Bears R w' σ Γ (M'.take M.length) T → ExR R.K R.ca w' e cls dx → R.W cls dx σ w'.H := o
      refine o cls d (uncW w w' x) e2 (b.call e2 m2 z2) ?_
      obtain ⟨c1, ns, ds1, d1, fs, rfl, rfl, rfl, h5, h6, h7, h8, h9⟩ := q
      exact ⟨c1, ns, ds1, d1, fs, rfl, rfl, rfl, h5, fun y => h6 (u.κ _ y), fun y => h7 (u.z _ y), h8, h9.unc u cc.2.2⟩
    · rw [if_neg cc] at o; exact o.elim
  | ok d M' =>
    intro o v w' ex m z r
    cases d with
    | non =>
      have o : OutR R σ Γ T w (match M'[M.length]? with
        | some (.ins c' ns vs) => if M'.length = M.length + 1 ∧ (M'.take M.length).all (freeC M.length) ∧ freeDs M.length vs then Res.ok (D.ins c' ns vs) (M'.take M.length) else Res.stuck
        | _ => Res.stuck) (fun d _ w' => ∀ v, Rp R.K R.ca w' false v d → Q v w'.H) := o
      cases r
      refine ⟨rfl, ?_⟩
      cases hM : M'[M.length]? with
      | none => rw [hM] at o; exact o.elim
      | some cl =>
        rw [hM] at o
        cases cl with
        | lst _ => exact o.elim
        | ins c' ns us' =>
          have o : OutR R σ Γ T w (if M'.length = M.length + 1 ∧ (M'.take M.length).all (freeC M.length) ∧ freeDs M.length us' then Res.ok (D.ins c' ns us') (M'.take M.length) else Res.stuck) (fun d _ w' => ∀ v, Rp R.K R.ca w' false v d → Q v w'.H) := o
          by_cases cc : M'.length = M.length + 1 ∧ (M'.take M.length).all (freeC M.length) ∧ freeDs M.length us'
          · rw [if_pos cc] at o
            obtain ⟨u, e2, m2, z2, hκ⟩ := unc_ok (C := C) b hx hdx hne ex m z cc.1 cc.2.1
            have o : ∀ w', Ext w w' → Bears R w' σ Γ (M'.take M.length) T → ∀ v, Rp R.K R.ca w' false v (.ins c' ns us') → Q v w'.H := o
            refine o _ e2 (b.call e2 m2 z2) (.ref x) ?_
            obtain ⟨p, h1, d1, fs, h2, h3, h4⟩ := m.at_ _ _ hM
            rw [hκ] at h1
            cases h1
            exact .ins (u.H ▸ h2) (fun h => b.zt x (b.mem.z x h) hx) (fun _ h => h.2 rfl) h3 (h4.unc u cc.2.2)
          · rw [if_neg cc] at o; exact o.elim
    | _ => exact (show False from o).elim
/-- C(..): the instance as a cell -/
theorem cal_mkC {dv : List Value} {ix : List Nat} {dfl : List D} {dvs : List V} (Mm : Mk X.K C f) (G : FnG X.prog X.w X.K X.mg X.base k f fd ps (spF R.K R.ca F ps.length)) (hr : Room (k + 1) X.A) (hg : X.A.guards = some []) (hb : KB X.K fd ps (n + 1) ks dv ix)
    (hd : Vals dvs dv) (hD : ∀ w, RpAll R.K R.ca w dvs dfl) (tk : Takes X R.W) (hC : R.ca c = C) : CalR X R (.ref C) n ks (mkC c (pickF ix dfl F)) := by
  intro pins s σ w Γ M T us ws vs zs ds es Q I b rv rz rd re hn hk o
  refine make_go Mm G hr hg hb hd hD tk hC I b rv rz rd re hn hk fun x dx hx hdx hne => ?_
  have o : OutR R σ Γ T w (match pickF ix dfl F (.ref M.length :: (ds ++ es)) (M ++ [.ins c [] []]) with
    | .ok .non M' => Res.ok (D.ref M.length) M'
    | .err e M' => Res.err e M'
    | _ => Res.stuck) _ := o
  have e0 := mkW_ext (C := C) hx hdx hne
  revert o
  cases pickF ix dfl F (.ref M.length :: (ds ++ es)) (M ++ [.ins c [] []]) with
  | stuck => exact id
  | err e M' => exact fun o cls d w' ex m z q => o cls d w' (e0.trans ex) (b.call (e0.trans ex) m z) q
  | ok d M' =>
    intro o v w' ex m z r
    cases d with
    | non =>
      cases r
      refine ⟨rfl, ?_⟩
      have o : ∀ w', Ext w w' → Bears R w' σ Γ M' T → ∀ v, Rp R.K R.ca w' false v (.ref M.length) → Q v w'.H := o
      refine o w' (e0.trans ex) (b.call (e0.trans ex) m z) (.ref x) (.ref ?_)
      obtain ⟨more, h1, _⟩ := ex.κ
      have h1 : w'.κ = (w.κ ++ [x]) ++ more := h1
      rw [h1, ← b.mem.len]
      simp
    | _ => exact (show False from o).elim
end
end Pk

set_option Elab.async false
set_option linter.all false
set_option autoImplicit false
set_option maxRecDepth 100000
set_option maxHeartbeats 1000000
/-! Sound21: chains, more built-ins, properties. -/
namespace Pk
open PySem PySem.Spec PyProof.Rows L2

/-! ### a < b < c -/
section
variable {X : Cx} {R : Rd0} {a b c : Expr} {ia ib ic : Ex} {pos : Pos} {F G : Fn} {z : Bool}
/-- what a chain reads, ahead of its last operand -/
theorem chain_read {σ : L2.St} {Γ : Env} {M : Mem} {T : List Addr} {w : Wd} {Q : D → Mem → Wd → Prop} (o : OutR R σ Γ T w (ev (.chain F G ia ib ic) Γ M) Q) :
    OutR R σ Γ T w (ev ia Γ M) fun x M1 w1 => OutR R σ Γ T w1 (ev ib Γ M1) fun y M2 w2 => OutR R σ Γ T w2 (F [x, y] M2) fun d M3 w3 => ∃ t, d = .bl t ∧ (if t = true then OutR R σ Γ T w3 (ev ic Γ M3) fun u M4 w4 => OutR R σ Γ T w4 (G [y, u] M4) Q else Q (.bl false) M3 w3) := by
  have o : OutR R σ Γ T w (bnd (ev ia Γ M) fun x M => bnd (ev ib Γ M) fun y M => bnd (F [x, y] M) fun d M => bnd (asBool d M) fun t M =>
      if t then bnd (ev ic Γ M) fun z M => G [y, z] M else .ok (.bl false) M) Q := o
  refine o.bnd.imp fun x M1 w1 e1 b1 o1 => o1.bnd.imp fun y M2 w2 e2 b2 o2 => o2.bnd.imp fun d M3 w3 e3 b3 o3 => ?_
  obtain ⟨t, rfl, o3⟩ := bool_bnd o3
  refine ⟨t, rfl, ?_⟩
  cases t with
  | true => exact iteT (OutR.bnd (r := ev ic Γ M3) (f := fun z M => G [y, z] M) o3)
  | false => exact iteF (OutR.here (a := D.bl false) o3 b3)
theorem e_chain {op op' : CmpOp} (ho : OpP X R (compareOp op) F) (ho' : OpP X R (compareOp op') G) (ha : PE X a (tE R true ia)) (hb : PE X b (tE R true ib)) (hc : PE X c (tE R true ic)) (hm : lastMarks [op, op'] [b, c] = false) :
    PE X (.Compare a [op, op'] [b, c] pos) (tE R z (.chain F G ia ib ic)) := PE.up <| by
  refine ⟨fun pins s σ H Q I h => ?_⟩
  obtain ⟨w, Γ, M, T, hw, sr, o⟩ := h
  subst hw
  have o := chain_read o
  refine Compare_chain (thn (ha.run pins s σ w.H (fun vx H1 => ∃ w1 M1 x, w1.H = H1 ∧ Bears R w1 σ Γ M1 T ∧ Rp R.K R.ca w1 true vx x ∧ OutR R σ Γ T w1 (ev ib Γ M1) fun y M2 w2 => OutR R σ Γ T w2 (F [x, y] M2) fun d M3 w3 => ∃ t, d = .bl t ∧ (if t = true then OutR R σ Γ T w3 (ev ic Γ M3) fun u M4 w4 => OutR R σ Γ T w4 (G [y, u] M4) (fun d _ w' => ∀ v, Rp R.K R.ca w' false v d → Q v w'.H) else ∀ v, Rp R.K R.ca w3 false v (.bl false) → Q v w3.H)) I
      ⟨w, Γ, M, T, rfl, sr, o.imp fun x M1 w1 e1 b1 o1 v r => ⟨w1, M1, x, rfl, b1, r, o1⟩⟩) fun v s1 ⟨vx, H1, I1, r1, w1, M1, x, hw1, b1, rx, o1⟩ => ?_) hm
  subst hw1
  refine chain_link (thn (hb.run pins s1 σ w1.H (fun vy H2 => ∃ w2 M2 y, w2.H = H2 ∧ Ext w1 w2 ∧ Bears R w2 σ Γ M2 T ∧ Rp R.K R.ca w2 true vy y ∧ OutR R σ Γ T w2 (F [x, y] M2) fun d M3 w3 => ∃ t, d = .bl t ∧ (if t = true then OutR R σ Γ T w3 (ev ic Γ M3) fun u M4 w4 => OutR R σ Γ T w4 (G [y, u] M4) (fun d _ w' => ∀ v, Rp R.K R.ca w' false v d → Q v w'.H) else ∀ v, Rp R.K R.ca w3 false v (.bl false) → Q v w3.H)) I1
      ⟨w1, Γ, M1, T, rfl, b1, o1.imp fun y M2 w2 e2 b2 o2 v r => ⟨w2, M2, y, rfl, e2, b2, r, o2⟩⟩) fun u s2 ⟨vy, H2, I2, r2, w2, M2, y, hw2, e2, b2, ry, o2⟩ => ?_)
  subst hw2
  refine thn (ho pins s2 σ Γ M2 T w2 x y vx vy v u (fun vz H3 => ∃ t w3 M3, vz = .bl t ∧ w3.H = H3 ∧ Ext w2 w3 ∧ Bears R w3 σ Γ M3 T ∧ (if t = true then OutR R σ Γ T w3 (ev ic Γ M3) fun u M4 w4 => OutR R σ Γ T w4 (G [y, u] M4) (fun d _ w' => ∀ v, Rp R.K R.ca w' false v d → Q v w'.H) else ∀ v, Rp R.K R.ca w3 false v (.bl false) → Q v w3.H)) I2 b2 (rx.ext e2) ry r1 r2 (o2.imp fun d M3 w3 e3 b3 ⟨t, ht, q⟩ v r => ?_)) fun d s3 ⟨vz, H3, I3, r3, t, w3, M3, hz, hw3, e3, b3, q⟩ => ?_
  · subst ht
    cases r
    exact ⟨t, w3, M3, rfl, rfl, e3, b3, q⟩
  · subst hz hw3
    cases r3
    refine wpAny_truthy_bool ?_
    cases t with
    | false => exact ite_ff ⟨.bl false, w3.H, I3, rfl, (show ∀ v, Rp R.K R.ca w3 false v (.bl false) → Q v w3.H from q) _ (.bl false)⟩
    | true =>
      have q : OutR R σ Γ T w3 (ev ic Γ M3) fun u M4 w4 => OutR R σ Γ T w4 (G [y, u] M4) (fun d _ w' => ∀ v, Rp R.K R.ca w' false v d → Q v w'.H) := q
      refine ite_tt (chain_last (thn (hc.run pins s3 σ w3.H (fun vu H4 => ∃ w4 M4 d, w4.H = H4 ∧ Ext w3 w4 ∧ Bears R w4 σ Γ M4 T ∧ Rp R.K R.ca w4 true vu d ∧ OutR R σ Γ T w4 (G [y, d] M4) (fun d _ w' => ∀ v, Rp R.K R.ca w' false v d → Q v w'.H)) I3 ⟨w3, Γ, M3, T, rfl, b3, q.imp fun d M4 w4 e4 b4 o4 v r => ⟨w4, M4, d, rfl, e4, b4, r, o4⟩⟩) fun w' s4 ⟨vu, H4, I4, r4, w4, M4, d, hw4, e4, b4, rd, o4⟩ => ?_))
      subst hw4
      exact ho' pins s4 σ Γ M4 T w4 y d vy vu u w' Q I4 b4 ((ry.ext e3).ext e4) rd r2 r4 o4
theorem t_chain {op op' : CmpOp} (ho : OpP X R (compareOp op) F) (ho' : OpP X R (compareOp op') G) (ha : PE X a (tE R true ia)) (hb : PE X b (tE R true ib)) (hc : PE X c (tE R true ic)) (hm : lastMarks [op, op'] [b, c] = false) :
    PT X (.Compare a [op, op'] [b, c] pos) (tT R (.chain F G ia ib ic)) := by
  refine ⟨fun pins s σ H Q I h => ?_⟩
  obtain ⟨w, Γ, M, T, hw, sr, o⟩ := h
  subst hw
  have o := chain_read (test_of o)
  refine isTrue_chain (thn (ha.run pins s σ w.H (fun vx H1 => ∃ w1 M1 x, w1.H = H1 ∧ Bears R w1 σ Γ M1 T ∧ Rp R.K R.ca w1 true vx x ∧ OutR R σ Γ T w1 (ev ib Γ M1) fun y M2 w2 => OutR R σ Γ T w2 (F [x, y] M2) fun d M3 w3 => ∃ t, d = .bl t ∧ (if t = true then OutR R σ Γ T w3 (ev ic Γ M3) fun u M4 w4 => OutR R σ Γ T w4 (G [y, u] M4) (fun d _ w' => ∃ t, d = D.bl t ∧ Q t w'.H) else ∃ t, D.bl false = D.bl t ∧ Q t w3.H)) I
      ⟨w, Γ, M, T, rfl, sr, o.imp fun x M1 w1 e1 b1 o1 v r => ⟨w1, M1, x, rfl, b1, r, o1⟩⟩) fun v s1 ⟨vx, H1, I1, r1, w1, M1, x, hw1, b1, rx, o1⟩ => ?_) hm
  subst hw1
  refine test_link (thn (hb.run pins s1 σ w1.H (fun vy H2 => ∃ w2 M2 y, w2.H = H2 ∧ Ext w1 w2 ∧ Bears R w2 σ Γ M2 T ∧ Rp R.K R.ca w2 true vy y ∧ OutR R σ Γ T w2 (F [x, y] M2) fun d M3 w3 => ∃ t, d = .bl t ∧ (if t = true then OutR R σ Γ T w3 (ev ic Γ M3) fun u M4 w4 => OutR R σ Γ T w4 (G [y, u] M4) (fun d _ w' => ∃ t, d = D.bl t ∧ Q t w'.H) else ∃ t, D.bl false = D.bl t ∧ Q t w3.H)) I1
      ⟨w1, Γ, M1, T, rfl, b1, o1.imp fun y M2 w2 e2 b2 o2 v r => ⟨w2, M2, y, rfl, e2, b2, r, o2⟩⟩) fun u s2 ⟨vy, H2, I2, r2, w2, M2, y, hw2, e2, b2, ry, o2⟩ => ?_)
  subst hw2
  refine thn (ho pins s2 σ Γ M2 T w2 x y vx vy v u (fun vz H3 => ∃ t w3 M3, vz = .bl t ∧ w3.H = H3 ∧ Ext w2 w3 ∧ Bears R w3 σ Γ M3 T ∧ (if t = true then OutR R σ Γ T w3 (ev ic Γ M3) fun u M4 w4 => OutR R σ Γ T w4 (G [y, u] M4) (fun d _ w' => ∃ t, d = D.bl t ∧ Q t w'.H) else ∃ t, D.bl false = D.bl t ∧ Q t w3.H)) I2 b2 (rx.ext e2) ry r1 r2 (o2.imp fun d M3 w3 e3 b3 ⟨t, ht, q⟩ v r => ?_)) fun d s3 ⟨vz, H3, I3, r3, t, w3, M3, hz, hw3, e3, b3, q⟩ => ?_
  · subst ht
    cases r
    exact ⟨t, w3, M3, rfl, rfl, e3, b3, q⟩
  · subst hz hw3
    cases r3
    refine wpAny_truthy_bool ?_
    cases t with
    | false =>
      obtain ⟨t', ht', q⟩ := (show ∃ t, D.bl false = D.bl t ∧ Q t w3.H from q)
      cases ht'
      exact ite_ff ⟨w3.H, I3, q⟩
    | true =>
      have q : OutR R σ Γ T w3 (ev ic Γ M3) fun u M4 w4 => OutR R σ Γ T w4 (G [y, u] M4) (fun d _ w' => ∃ t, d = D.bl t ∧ Q t w'.H) := q
      refine ite_tt (test_last (thn (hc.run pins s3 σ w3.H (fun vu H4 => ∃ w4 M4 d, w4.H = H4 ∧ Ext w3 w4 ∧ Bears R w4 σ Γ M4 T ∧ Rp R.K R.ca w4 true vu d ∧ OutR R σ Γ T w4 (G [y, d] M4) (fun d _ w' => ∃ t, d = D.bl t ∧ Q t w'.H)) I3 ⟨w3, Γ, M3, T, rfl, b3, q.imp fun d M4 w4 e4 b4 o4 v r => ⟨w4, M4, d, rfl, e4, b4, r, o4⟩⟩) fun w' s4 ⟨vu, H4, I4, r4, w4, M4, d, hw4, e4, b4, rd, o4⟩ => ?_))
      subst hw4
      refine thn (ho' pins s4 σ Γ M4 T w4 y d vy vu u w' (fun vz H5 => ∃ t, vz = .bl t ∧ Q t H5) I4 b4 ((ry.ext e3).ext e4) rd r2 r4 (o4.imp fun d5 M5 w5 e5 b5 ⟨t, ht, q⟩ v r => ?_)) fun d' s5 ⟨vz, H5, I5, r5, t, hz, q5⟩ => ?_
      · subst ht
        cases r
        exact ⟨t, rfl, q⟩
      · subst hz
        cases r5
        exact wpAny_truthy_bool ⟨H5, I5, q5⟩
end

/-! ### max, min of two, bool, str -/
section
variable {S : Sx} {k : Nat} {ca : String → Addr} {X : Cx} {R : Rd0}
theorem b_max2 (B : Bd S k ca X R) : CallP X R (.builtin "max") pMax2 := by
  intro pins s σ Γ M T w ds vs us Q I b rs r o
  by_cases hk : ∃ i j, ds = [.int i, .int j]
  · obtain ⟨i, j, rfl⟩ := hk
    obtain ⟨v, u, rfl, rx, ry⟩ := rs.two
    cases rx; cases ry
    refine call_max2 B.calm pins s σ w.H _ us Q I r ⟨i, j, rfl, ?_⟩
    have e : (if j > i then j else i) = max i j := by split <;> omega
    rw [e]
    exact OutR.here (a := D.int (max i j)) o b _ (.int _)
  · exfalso
    revert o
    unfold pMax2
    split
    · exact (hk ⟨_, _, rfl⟩).elim
    · exact id
theorem b_min2 (B : Bd S k ca X R) : CallP X R (.builtin "min") pMin2 := by
  intro pins s σ Γ M T w ds vs us Q I b rs r o
  by_cases hk : ∃ i j, ds = [.int i, .int j]
  · obtain ⟨i, j, rfl⟩ := hk
    obtain ⟨v, u, rfl, rx, ry⟩ := rs.two
    cases rx; cases ry
    refine call_min2 B.calm pins s σ w.H _ us Q I r ⟨i, j, rfl, ?_⟩
    have e : (if j < i then j else i) = min i j := by split <;> omega
    rw [e]
    exact OutR.here (a := D.int (min i j)) o b _ (.int _)
  · exfalso
    revert o
    unfold pMin2
    split
    · exact (hk ⟨_, _, rfl⟩).elim
    · exact id
/-- str(i), i an int -/
theorem b_str : CallP X R (.type "str") pStrI := by
  intro pins s σ Γ M T w ds vs us Q I b rs r o
  by_cases hk : ∃ i, ds = [.int i]
  · obtain ⟨i, rfl⟩ := hk
    obtain ⟨v, rfl, rx⟩ := rs.one
    cases rx
    have o : OutR R σ Γ T w (if fitsI i then Res.ok (D.str (intCs i)) M else Res.stuck) _ := o
    by_cases c : fitsI i = true
    · rw [if_pos c] at o
      refine call_str_int pins s σ w.H _ us Q I r ⟨i, rfl, fits_log c, ?_⟩
      rw [ofString_sof]
      exact OutR.here o b _ (.str _)
    · rw [if_neg c] at o; exact o.elim
  · exfalso
    revert o
    unfold pStrI
    split
    · exact (hk ⟨_, rfl⟩).elim
    · exact id

/-! ### properties -/
variable {e : Expr} {ie : Ex} {f g : String} {pos : Pos} {z : Bool} {cs : List String} {n : Nat}
/-- what the written part says of a property f of the class at C that reads the attribute g -/
structure PropG (X : Cx) (n : Nat) (C : Addr) (f g : String) : Prop where
  cl : Cls X.K C
  ex : ∃ (p ga : Addr) (fd : FuncData), PropOf X.K C (Str.ofString f) p ga ∧ FnOk X.prog X.w X.K X.mg X.base CX0 n ga fd ["self"] (getSp C (Str.ofString g)) ∧ Binds X.K fd ["self"] []
/-- e.f, a property that reads an attribute -/
theorem e_prop (B : Bd S k ca X R) (he : PE X e (tE R true ie)) (hr : Room (n + 1) X.A) (hc : ∀ c ∈ cs, PropG X n (ca c) f g) (hb : attributeBase e (Str.ofString f) X.env (eval e X.env) = eval e X.env) : PE X (.Attribute e (Str.ofString f) pos) (tE R z (.app (pFld cs g) (.cons ie .nil))) := PE.up <| by
  refine ⟨fun pins s σ H Q I h => ?_⟩
  obtain ⟨w, Γ, M, T, hw, sr, o⟩ := h
  subst hw
  refine attr_of hb (thn (he.run pins s σ w.H (fun v H1 => ∃ w1 M1 x, w1.H = H1 ∧ Bears R w1 σ Γ M1 T ∧ Rp R.K R.ca w1 true v x ∧ OutR R σ Γ T w1 (pFld cs g [x] M1) fun d _ w' => ∀ v, Rp R.K R.ca w' false v d → Q v w'.H) I
    ⟨w, Γ, M, T, rfl, sr, (a1e o).imp fun x M1 w1 e1 b1 o1 v r => ⟨w1, M1, x, rfl, b1, r, o1⟩⟩) fun u s1 ⟨v, H1, I1, ru, w1, M1, x, hw1, b1, r, o1⟩ => ?_)
  subst hw1
  have key : ∀ (c : String) (ns : List String) (ds : List D), (x = .ins c ns ds ∨ ∃ a, x = .ref a ∧ M1[a]? = some (.ins c ns ds)) → OutR R σ Γ T w1 (if cs.contains c then optD (fget ns ds g) M1 else .stuck) (fun d _ w' => ∀ v, Rp R.K R.ca w' false v d → Q v w'.H) →
      wpAny (model X.prog X.w) X.A (getAttr u (Str.ofString f) true) (EP X pins σ Q) X.xe s1 := fun c ns ds hx o1 => by
    by_cases hcs : cs.contains c = true
    · rw [if_pos hcs] at o1
      obtain ⟨a, dx, fs, rfl, h1, h2, h3⟩ := ins_at B b1 r hx
      cases q : fget ns ds g with
      | none => rw [q] at o1; exact o1.elim
      | some d =>
        rw [q] at o1
        obtain ⟨v', hl, rv⟩ := fget_rp h2 h3 q
        obtain ⟨cl, p, ga, fd, hp, F, hbd⟩ := hc c (by simpa using hcs)
        obtain rfl : u = Value.ref a := ru
        exact getprop_ok (E := E0) I1 h1 cl hp F hr hbd .nil pass0 ⟨a, dx, fs, v', rfl, h1, hl, OutR.here (a := d) o1 b1 v' rv⟩
    · rw [if_neg hcs] at o1; exact o1.elim
  cases x with
  | ins c ns ds => exact key c ns ds (.inl rfl) o1
  | ref a =>
    have o1 : OutR R σ Γ T w1 (match M1[a]? with
      | some (.ins c ns vs) => if cs.contains c then optD (fget ns vs g) M1 else .stuck
      | _ => .stuck) _ := o1
    cases q : M1[a]? with
    | none => rw [q] at o1; exact o1.elim
    | some cc =>
      rw [q] at o1
      cases cc with
      | lst _ => exact o1.elim
      | ins c ns ds => exact key c ns ds (.inr ⟨a, rfl, q⟩) o1
  | _ => exact (show False from o1).elim
end
end Pk

set_option Elab.async false
set_option linter.all false
set_option autoImplicit false
set_option maxRecDepth 100000
set_option maxHeartbeats 1000000
/-! Sound22: the rules as a program prints them. -/
namespace Pk
open PySem PySem.Spec PyProof.Rows L2

section
variable {S : Sx} {k j n : Nat} {ca : String → Addr} {X : Cx} {R : Rd0} {x : Str} {p pos : Pos} {e : Expr} {es : List Expr} {irs : Exs} {z : Bool} {f : Addr} {fd : FuncData} {ps : List Str} {F : Fn}
theorem pick_range {α : Type} (d : α) (l : List α) : pick d (List.range l.length) l = l := by
  apply List.ext_getElem
  · simp [pick]
  · intro i h1 h2
    simp [pick, List.getD_eq_getElem?_getD, List.getElem?_eq_getElem h2]
theorem CalR.congr {fv : Value} {ks : List Str} {F G : Fn} (h : CalR X R fv n ks F) (e : ∀ ds es M, ds.length = n → es.length = ks.length → F (ds ++ es) M = G (ds ++ es) M) : CalR X R fv n ks G := by
  intro pins s σ w Γ M T us ws vs zs ds es Q I b rv rz rd re hn hk o
  refine h pins s σ w Γ M T us ws vs zs ds es Q I b rv rz rd re hn hk ?_
  rw [e ds es M (by rw [← rd.length, rv.length, hn]) (by rw [← re.length, rz.length, hk])]
  exact o
/-- how all parameters are given by place -/
theorem kb_all {K : PySem.W.Frag} (hb : Binds K fd ps []) (hn : ps.length = n) : KB K fd ps n [] [] (List.range n) := by
  refine ⟨fun s us ws hK h1 h2 => ?_, fun i hi => by simpa using List.mem_range.mp hi, by simp [hn]⟩
  have hw : ws = [] := List.length_eq_zero_iff.mp h2
  subst hw
  have := hb s us hK (by simp [h1, hn])
  rw [List.append_nil] at this
  rw [List.append_nil, List.append_nil, ← h1, pick_range]
  exact this
theorem fnG_R (B : Bd S k ca X R) (G : FnG X.prog X.w X.K X.mg X.base j f fd ps (spF X.K ca F ps.length)) (h : j ≤ k) : FnG X.prog X.w X.K X.mg X.base k f fd ps (spF R.K R.ca F ps.length) := by
  rw [B.RK, B.Rca]
  exact G.mono h
/-- g(e, ..): all parameters by place -/
theorem c_call (B : Bd S k ca X R) (G : FnG X.prog X.w X.K X.mg X.base j f fd ps (spF X.K ca F ps.length)) (hj : j ≤ k) (hx : okGl S x = true) (hm : X.mg x = some (.ref f)) (hk : PySem.W.keepIn X.K (.ref f) = true) (hb : Binds X.K fd ps []) (ha : PA X (e :: es) (tA R false irs))
    (hn : ps.length = irs.len) (hs : (e :: es).all noStar = true) : PE X (.Call (.Name x p) (e :: es) [] pos) (tE R z (.app F irs)) := PE.up <| by
  obtain ⟨g1, g2, g3⟩ := gl_of B hx
  have hc : CalR X R (.ref f) irs.len [] F := (cal_fn (fnG_R B G hj) B.room B.grd (kb_all hb hn) .nil (fun _ => .nil) B.tk).congr fun ds es M h1 h2 => by
    have he : es = [] := List.length_eq_zero_iff.mp h2
    subst he
    show F (pick .non (List.range irs.len) ((ds ++ []) ++ [])) M = _
    rw [List.append_nil, List.append_nil, ← h1, pick_range]
  refine PEmono (e_call (ik := .nil) g1 hm hk hc ha k_nil rfl rfl hs g2) fun σ H Q ⟨w, Γ, M, T, hw, sr, o⟩ => ⟨w, Γ, M, T, hw, sr, ?_⟩
  have e : ∀ a : Exs, a.app .nil = a := by
    intro a
    induction a using Exs.rec (motive_1 := fun _ => True) with
    | nil => rfl
    | cons a r _ ih => show Exs.cons a (r.app .nil) = _; rw [ih]
    | _ => trivial
  rw [e]
  exact o
/-- C(e, ..): all parameters by place, the instance a value -/
theorem c_mkV (B : Bd S k ca X R) {C : Addr} {c : String} (Mm : Mk X.K C f) (G : FnG X.prog X.w X.K X.mg X.base j f fd ps (spF X.K ca F ps.length)) (hj : j + 1 ≤ k) (hx : okGl S x = true) (hm : X.mg x = some (.ref C)) (hb : Binds X.K fd ps []) (ha : PA X (e :: es) (tA R false irs))
    (hn : ps.length = irs.len + 1) (hs : (e :: es).all noStar = true) (hC : ca c = C) : PE X (.Call (.Name x p) (e :: es) [] pos) (tE R z (.app (mkV c F) irs)) := PE.up <| by
  obtain ⟨g1, g2, g3⟩ := gl_of B hx
  have G' : FnG X.prog X.w X.K X.mg X.base j f fd ps (spF R.K R.ca F ps.length) := by rw [B.RK, B.Rca]; exact G
  have kb : KB X.K fd ps (irs.len + 1) [] [] (List.range (irs.len + 1)) := kb_all hb hn
  have hc : CalR X R (.ref C) irs.len [] (mkV c F) := (cal_mkV (c := c) Mm G' (B.room.mono hj) B.grd kb .nil (fun _ => .nil) B.tk (by rw [B.Rca]; exact hC)).congr fun ds es M h1 h2 => by
    have he : es = [] := List.length_eq_zero_iff.mp h2
    subst he
    have key : ∀ M', pickF (List.range (irs.len + 1)) [] F (.ref M.length :: (ds ++ [])) M' = F (.ref M.length :: (ds ++ [])) M' := fun M' => by
      show F (pick .non (List.range (irs.len + 1)) ((D.ref M.length :: (ds ++ [])) ++ [])) M' = _
      have : irs.len + 1 = (D.ref M.length :: (ds ++ [])).length := by simp [h1]
      rw [List.append_nil (D.ref M.length :: (ds ++ [])), this, pick_range]
    unfold mkV
    rw [key]
  refine PEmono (e_call (ik := .nil) g1 hm Mm.kp hc ha k_nil rfl rfl hs g2) fun σ H Q ⟨w, Γ, M, T, hw, sr, o⟩ => ⟨w, Γ, M, T, hw, sr, ?_⟩
  have e : ∀ a : Exs, a.app .nil = a := by
    intro a
    induction a using Exs.rec (motive_1 := fun _ => True) with
    | nil => rfl
    | cons a r _ ih => show Exs.cons a (r.app .nil) = _; rw [ih]
    | _ => trivial
  rw [e]
  exact o
end

/-! ### comprehensions, with the text within -/
section
variable {S : Sx} {k : Nat} {ca : String → Addr} {X : Cx} {R : Rd0} {tg e el : Expr} {ifs : List Expr} {scope : Scope} {own : List (Str × Nat)} {pos : Pos} {it c iel : Ex} {tg' : Tg} {z : Bool}
abbrev InB (S : Sx) (k : Nat) (ca : String → Addr) (X : Cx) (R : Rd0) (scope : Scope) (P : Cx → Prop) : Prop := ∀ (s : Shared) (H : Hp) (C : Addr) (cl : List (Str × Addr)) (fp : List Addr), Bd (S.blk scope) k ca (X.blk s H scope (compEnvC scope cl C X.env) fp) R.cold → P (X.blk s H scope (compEnvC scope cl C X.env) fp)
theorem c_lc (B : Bd S k ca X R) (own : List (Str × Nat)) (hi : PI X tg e (tI R true it)) (ok : blkB S scope own = true) (hg : InB S k ca X R scope fun X => PG X tg (gT R.cold tg')) (ht : InB S k ca X R scope fun X => PTs X ifs (tT R.cold c)) (he : InB S k ca X R scope fun X => PE X el (tE R.cold false iel))
    (hsub : (tgSlots tg').all (fun i => (own.map (·.2)).contains i) = true) (hs : ∀ x, foldedSetIterable e X.env x = pure x) : PE X (.ListComp el [⟨tg, e, ifs, 0⟩] scope pos) (tE R z (.comp (own.map (·.2)) tg' it c iel)) :=
  e_new (f_lc B hi ok (fun s H C cl fp => hg s H C cl fp (B.blk scope s H C cl fp)) (fun s H C cl fp => ht s H C cl fp (B.blk scope s H C cl fp)) (fun s H C cl fp => he s H C cl fp (B.blk scope s H C cl fp)) hsub hs) lc_nd
/-- targets -/
theorem c_name {x : Str} {i : Nat} (B : Bd S k ca X R) (h : okTg S i x = true) : PG X (.Name x pos) (gT R (.n i)) := by
  obtain ⟨h1, h2, h3⟩ := tg_of B h
  exact g_name (B.nN ▸ B.nd) h1 h2 h3
def okTgs (S : Sx) : List Expr → List Nat → Bool
  | [], [] => true
  | .Name x _ :: es, i :: is => okTg S i x && okTgs S es is
  | _, _ => false
theorem c_tup {es : List Expr} {kk : Nat} {is : List Nat} (B : Bd S k ca X R) (h : okTgs S es is = true) : PG X (.Tuple es kk pos) (gT R (.t is)) := by
  have key : ∀ (es : List Expr) (is : List Nat), okTgs S es is = true → tgNames X es is := by
    intro es
    induction es with
    | nil => intro is h; cases is <;> first | trivial | cases h
    | cons e es ih =>
      intro is h
      cases is with
      | nil => cases e <;> cases h
      | cons i is =>
        cases e <;> first | (cases h; done) | skip
        rename_i x p
        have h : (okTg S i x && okTgs S es is) = true := h
        rw [Bool.and_eq_true] at h
        obtain ⟨h1, h2, h3⟩ := tg_of B h.1
        exact ⟨h1, h2, h3, ih is h.2⟩
  exact g_tup B.RK.symm B.calm (B.nN ▸ B.nd) (key es is h)
/-- return e -/
theorem c_ret {ie : Ex} (B : Bd S k ca X R) (he : Bd { S with mu := [] } k ca X { R with mu := [] } → PE X e (tE { R with mu := [] } false ie)) : PS X (.Return (some e) pos) (tM R (.ret ie)) :=
  s_ret (he ⟨B.nN, B.nd, B.nsc, B.calm, B.room, B.grd, B.tk, B.ps, B.fn, B.bk, B.RK, B.Rca, rfl, B.stk⟩)
end
section
variable {S : Sx} {k : Nat} {ca : String → Addr} {X : Cx} {R : Rd0} {tg e el tg1 e1 kx vx : Expr} {ifs ifs1 : List Expr} {scope : Scope} {pos : Pos} {it c iel it2 c2 ik iv : Ex} {tg' tg2' : Tg} {z : Bool}
theorem o_in0 (B : Bd S k ca X R) : OpP X R (compareOp .In) (pIn tab0) := oq_in B fun _ _ h => nomatch h
theorem b_len0 (B : Bd S k ca X R) : CallP X R (.builtin "len") (pLen tab0) := b_lenq (fun _ _ h => nomatch h) B
theorem lc2_nd {own own2 : List Nat} : ∀ Γ M d M', ev (.comp2 own tg' it c own2 tg2' it2 c2 iel) Γ M = .ok d M' → notDict d := fun Γ M d M' h => by
  obtain ⟨x, M1, h1, h⟩ := bnd_okE (show bnd (ev it Γ M) _ = .ok d M' from h)
  cases q : items x with
  | none => rw [q] at h; cases h
  | some ds =>
    rw [q] at h
    have h : noErr (bnd (compL (turnC2 own tg' c own2 tg2' it2 c2 iel Γ) ds M1) fun ys M => if ys.length ≤ 1000000 then Res.ok (D.lst ys) M else Res.stuck) = .ok d M' := h
    cases q2 : compL (turnC2 own tg' c own2 tg2' it2 c2 iel Γ) ds M1 with
    | ok ys M2 =>
      rw [q2] at h
      have h : noErr (if ys.length ≤ 1000000 then Res.ok (D.lst ys) M2 else Res.stuck) = .ok d M' := h
      by_cases hl : ys.length ≤ 1000000
      · rw [if_pos hl] at h; cases h; trivial
      · rw [if_neg hl] at h; cases h
    | err x M2 => rw [q2] at h; cases h
    | stuck => rw [q2] at h; cases h
theorem c_lc2 (B : Bd S k ca X R) (own : List (Str × Nat)) (vs1 : List Nat) (hi : PI X tg e (tI R true it)) (ok : blkB S scope own = true) (hv : vs1.all (fun i => (own.map (·.2)).contains i) = true) (hg : InB S k ca X R scope fun X => PG X tg (gT R.cold tg')) (ht : InB S k ca X R scope fun X => PTs X ifs (tT R.cold c))
    (hi1 : InB S k ca X R scope fun X => PI X tg1 e1 (tI R.cold false it2)) (hg1 : InB S k ca X R scope fun X => PG X tg1 (gT R.cold tg2')) (ht1 : InB S k ca X R scope fun X => PTs X ifs1 (tT R.cold c2)) (he : InB S k ca X R scope fun X => PE X el (tE R.cold false iel))
    (hsub : (tgSlots tg').all (fun i => (own.map (·.2)).contains i) = true) (hsub1 : (tgSlots tg2').all (fun i => vs1.contains i) = true) (hs : ∀ x, foldedSetIterable e X.env x = pure x) (hs1 : ∀ env x, foldedSetIterable e1 env x = pure x) :
    PE X (.ListComp el [⟨tg, e, ifs, 0⟩, ⟨tg1, e1, ifs1, 0⟩] scope pos) (tE R z (.comp2 (own.map (·.2)) tg' it c vs1 tg2' it2 c2 iel)) :=
  e_new (f_lc2 B hi ok hv (fun s H C cl fp => hg s H C cl fp (B.blk scope s H C cl fp)) (fun s H C cl fp => ht s H C cl fp (B.blk scope s H C cl fp)) (fun s H C cl fp => hi1 s H C cl fp (B.blk scope s H C cl fp)) (fun s H C cl fp => hg1 s H C cl fp (B.blk scope s H C cl fp)) (fun s H C cl fp => ht1 s H C cl fp (B.blk scope s H C cl fp)) (fun s H C cl fp => he s H C cl fp (B.blk scope s H C cl fp)) hsub hsub1 hs hs1) lc2_nd
theorem c_dc (B : Bd S k ca X R) (own : List (Str × Nat)) (hi : PI X tg e (tI R true it)) (ok : blkB S scope own = true) (hg : InB S k ca X R scope fun X => PG X tg (gT R.cold tg')) (ht : InB S k ca X R scope fun X => PTs X ifs (tT R.cold c)) (hk : InB S k ca X R scope fun X => PE X kx (tE R.cold false ik)) (he : InB S k ca X R scope fun X => PE X vx (tE R.cold false iv))
    (hsub : (tgSlots tg').all (fun i => (own.map (·.2)).contains i) = true) (hs : ∀ x, foldedSetIterable e X.env x = pure x) : PE X (.DictComp kx vx [⟨tg, e, ifs, 0⟩] scope pos) (tE R z (.dcomp (own.map (·.2)) tg' it c ik iv)) :=
  e_dc B hi ok (fun s H C cl fp => hg s H C cl fp (B.blk scope s H C cl fp)) (fun s H C cl fp => ht s H C cl fp (B.blk scope s H C cl fp)) (fun s H C cl fp => hk s H C cl fp (B.blk scope s H C cl fp)) (fun s H C cl fp => he s H C cl fp (B.blk scope s H C cl fp)) hsub hs
variable {i : Nat} {y : Str} {py spos : Pos}
theorem c_lcO (B : Bd S k ca X R) (own : List (Str × Nat)) (hst : S.st = true) (hy : okTg S i y = true) (ly : S.sc.names.lookup y = some .local) (hsw : (S.sc.names.lookup y == some .local && py.line == pos.line && !(scope.names.any fun (n, k) => n == y && (k == .local || k == .cell))) = true) (hm : S.mu.contains i = true)
    (hi : PI X tg e (tI R true it)) (ok : blkB S scope own = true) (hg : InB S k ca X R scope fun X => PG X tg (gT R.cold tg')) (ht : InB S k ca X R scope fun X => PTs X ifs (tT R.cold c)) (he : InB S k ca X R scope fun X => PE X el (tE R.cold false iel))
    (hsub : (tgSlots tg').all (fun i => (own.map (·.2)).contains i) = true) (hs : ∀ x, foldedSetIterable e X.env x = pure x) : PS X (.Assign [.Name y py] (.ListComp el [⟨tg, e, ifs, 0⟩] scope pos) spos) (tM R (.asg (.o i) (.comp (own.map (·.2)) tg' it c iel))) :=
  s_lcO B hst hy ly hsw hm hi ok (fun s H C cl fp => hg s H C cl fp (B.blk scope s H C cl fp)) (fun s H C cl fp => ht s H C cl fp (B.blk scope s H C cl fp)) (fun s H C cl fp => he s H C cl fp (B.blk scope s H C cl fp)) hsub hs
theorem c_lcV (B : Bd S k ca X R) (own : List (Str × Nat)) (hst : S.st = true) (hy : okTg S i y = true) (ly : S.sc.names.lookup y = some .local) (hsw : (S.sc.names.lookup y == some .local && py.line == pos.line && !(scope.names.any fun (n, k) => n == y && (k == .local || k == .cell))) = true)
    (hi : PI X tg e (tI R true it)) (ok : blkB S scope own = true) (hg : InB S k ca X R scope fun X => PG X tg (gT R.cold tg')) (ht : InB S k ca X R scope fun X => PTs X ifs (tT R.cold c)) (he : InB S k ca X R scope fun X => PE X el (tE R.cold false iel))
    (hsub : (tgSlots tg').all (fun i => (own.map (·.2)).contains i) = true) (hs : ∀ x, foldedSetIterable e X.env x = pure x) : PS X (.Assign [.Name y py] (.ListComp el [⟨tg, e, ifs, 0⟩] scope pos) spos) (tM R (.asg (.n i) (.comp (own.map (·.2)) tg' it c iel))) :=
  s_lcV B hst hy ly hsw hi ok (fun s H C cl fp => hg s H C cl fp (B.blk scope s H C cl fp)) (fun s H C cl fp => ht s H C cl fp (B.blk scope s H C cl fp)) (fun s H C cl fp => he s H C cl fp (B.blk scope s H C cl fp)) hsub hs
/-- x = [..] where x is a cell: no store ahead of the end -/
theorem sw_cell (B : Bd S k ca X R) (hst : S.st = true) {gs : List Comprehension} (h : (S.sc.names.lookup y == some .local && py.line == pos.line && !(scope.names.any fun (n, k) => n == y && (k == .local || k == .cell))) = false) :
    swapsWith (.ListComp el gs scope pos) (some (.Name y py)) spos.line X.env = pure false := by rw [sw_lc B hst, h]
theorem app_grows {G : OwnM} (h : G = mAppend ∨ G = mInsert) : ∀ x ds u y, G x ds = some (u, y) → ∃ xs ys, x = .lst xs ∧ y = .lst ys := by
  rintro x ds u y hG
  rcases h with rfl | rfl
  · unfold mAppend at hG
    split at hG
    · split at hG
      · cases hG; exact ⟨_, _, rfl, rfl⟩
      · cases hG
    · cases hG
  · unfold mInsert at hG
    split at hG
    · split at hG
      · cases hG; exact ⟨_, _, rfl, rfl⟩
      · cases hG
    · cases hG
end
end Pk

set_option Elab.async false
set_option linter.all false
set_option autoImplicit false
set_option maxRecDepth 100000
set_option maxHeartbeats 1000000
/-! Sound23: what a name owns becomes a value; where nothing is claimed. -/
namespace Pk
open PySem PySem.Spec PyProof.Rows L2

theorem slot_at {Γ : Env} {i : Nat} {s : Slot} (h : slotAt Γ i = s) (hs : s ≠ .no) : Γ[i]? = some s := by
  unfold slotAt at h
  rw [List.getD_eq_getElem?_getD] at h
  cases q : Γ[i]? with
  | none => rw [q] at h; exact absurd h.symm hs
  | some t => rw [q] at h; exact congrArg some h
section
variable {R : Rd0} {w : Wd} {σ : L2.St} {Γ : Env} {M : Mem} {T : List Addr} {i : Nat} {d : D}
theorem Bears.thaw1 (s : Bears R w σ Γ M T) (hi : Γ[i]? = some (Slot.own d)) (nd : notDict d) : ∃ w', w'.H = w.H ∧ Pres w w' ∧ Bears R w' σ (Pk.setN (Pk.setN Γ i d) i d) M T := by
  obtain ⟨p, hp, hz, h0, nk, nT, oc⟩ := s.own i d hi
  have l := Less.free w p
  have nd' : ∀ ks vs, d ≠ .dict ks vs := fun ks vs e => by rw [e] at nd; exact nd
  refine ⟨w.free p, rfl, ⟨⟨[], by simp [Wd.free], fun _ h => nomatch h⟩, fun a h => .inl h.1, fun a u h _ => h, fun _ _ _ h => h, fun _ h => h⟩, ?_⟩
  have hset : Pk.setN (Pk.setN Γ i d) i d = Γ.set i (.val d) := by unfold Pk.setN; rw [List.set_set]
  rw [hset]
  refine ⟨⟨s.ext.κ, fun a h => s.ext.z a h.1, fun a h => ⟨s.ext.z2 a h, fun e => s.zt0 a h (e ▸ h0)⟩, s.ext.keep, s.ext.there⟩, s.zt0, fun a h => s.zt a h.1, by simp [s.len], fun j e h => ?_, fun j e h => ?_, fun j e h => ?_, fun j m e e' q h1 h2 h3 h4 => ?_, fun a h => ?_, s.tnd, s.mem.len, s.mem.nd, fun a h => ⟨s.mem.z a h, fun e => nk (e ▸ h)⟩, fun k c h => ?_⟩
  · rcases set_at h with ⟨rfl, q⟩ | ⟨ne, q⟩
    · cases q
      exact ⟨.ref p, hp, OwnC.less l nk (fun z => z.2 rfl) nd' oc⟩
    · obtain ⟨v, h1, h2⟩ := s.val j e q
      exact ⟨v, h1, h2.less l⟩
  · rcases set_at h with ⟨rfl, q⟩ | ⟨ne, q⟩
    · cases q
    · obtain ⟨q', h1, h2, h3, h4, h5, h6⟩ := s.own j e q
      refine ⟨q', h1, ⟨h2, fun x => ne (s.apart i j d e p hi q hp (x ▸ h1))⟩, h3, h4, h5, ?_⟩
      cases e <;> first | exact h6.elim | skip
      case lst => obtain ⟨vs, h, r⟩ := h6; exact ⟨vs, h, r.less l⟩
      case dict => obtain ⟨kvs, h, k, r⟩ := h6; exact ⟨kvs, h, k, r.less l⟩
      case ins => obtain ⟨dx, fs, h, k, r⟩ := h6; exact ⟨dx, fs, h, k, r.less l⟩
  · rcases set_at h with ⟨rfl, q⟩ | ⟨ne, q⟩
    · cases q
    · exact s.mu j e q
  · rcases set_at h1 with ⟨rfl, q1⟩ | ⟨n1, q1⟩
    · cases q1
    · rcases set_at h2 with ⟨rfl, q2⟩ | ⟨n2, q2⟩
      · cases q2
      · exact s.apart j m e e' q q1 q2 h3 h4
  · obtain ⟨h1, h2, h3⟩ := s.tmp a h
    exact ⟨⟨h1, fun e => nT (e ▸ h)⟩, h2, h3⟩
  · obtain ⟨a, h1, h2⟩ := s.mem.at_ k c h
    exact ⟨a, h1, h2.less l⟩
end
section
variable {X : Cx} {R : Rd0} {st : Stmt} {sts : List Stmt} {ms : Sms} {i : Nat}
/-- ahead of the statements: what the name owns is a value from here on -/
theorem ss_move (i : Nat) (h : PSs X sts (tMs R ms)) : PSs X sts (tMs R (.cons (.move i i) ms)) :=
  PSsmono h fun D σ H ⟨w, Γ, M, hw, b, o⟩ => by
    subst hw
    have o : OutS R w (match (match slotAt Γ i with
      | .own (.dict _ _) => RS.stuck
      | .own d => .next (Pk.setN (Pk.setN Γ i d) i d) M
      | .val d => .next (Pk.setN Γ i d) M
      | _ => .stuck) with
      | .next Γ M => evSs ms Γ M
      | x => x) D := o
    cases q : slotAt Γ i with
    | no => rw [q] at o; exact o.elim
    | val d =>
      rw [q] at o
      have hi := slot_at q (fun h => nomatch h)
      have e : Pk.setN Γ i d = Γ := by
        unfold Pk.setN
        apply List.ext_getElem?
        intro j
        rw [List.getElem?_set]
        split
        · rename_i e; subst e
          split
          · exact hi.symm
          · rename_i hl; rw [List.getElem?_eq_none (by omega)]
        · rfl
      have o : OutS R w (evSs ms (Pk.setN Γ i d) M) D := o
      rw [e] at o
      exact ⟨w, Γ, M, rfl, b, o⟩
    | own d =>
      rw [q] at o
      have hi := slot_at q (fun h => nomatch h)
      have nd : notDict d := by
        cases d with
        | dict _ _ => exact o.elim
        | _ => trivial
      have o : OutS R w (evSs ms (Pk.setN (Pk.setN Γ i d) i d) M) D := by
        cases d with
        | dict _ _ => exact o.elim
        | _ => exact o
      obtain ⟨w', eH, pr, b'⟩ := b.thaw1 hi nd
      exact ⟨w', _, M, eH, b', OutS.fwd (r := evSs ms (Pk.setN (Pk.setN Γ i d) i d) M) o pr⟩
/-- a name that holds a value -/
theorem e_vvar {S : Sx} {k : Nat} {ca : String → Addr} {b : Bool} {x : Str} {pos : Pos} (B : Bd S k ca X R) (i : Nat) (h : okVar S i x true = true) : PE X (.Name x pos) (tE R b (.vvar i)) := by
  unfold okVar at h
  simp only [Bool.and_eq_true, Bool.not_eq_true', beq_iff_eq] at h
  obtain ⟨⟨⟨⟨h1, h2⟩, h3⟩, h4⟩, h5⟩ := h
  refine PEmono (pe_var (i := i) (by rw [B.nN]; exact h1) (by rw [B.nsc]; exact vis_of h2) h4 h5) fun σ H Q ⟨w, Γ, M, T, hw, sr, o⟩ => ?_
  subst hw
  have o : OutR R σ Γ T w (match slotAt Γ i with
    | .val d => .ok d M
    | _ => .stuck) _ := o
  cases q : slotAt Γ i with
  | val d =>
    rw [q] at o
    obtain ⟨v, e, r⟩ := sr.val i d (slot_at q (fun h => nomatch h))
    exact ⟨v, e, OutR.here o sr v r.up⟩
  | own d => rw [q] at o; exact o.elim
  | no => rw [q] at o; exact o.elim
/-- nothing is claimed -/
theorem s_die : PS X st (tM R .die) := ⟨fun pins s σ H D I ⟨w, Γ, M, hw, b, o⟩ => (show False from o).elim⟩
end
end Pk

set_option Elab.async false
set_option linter.all false
set_option autoImplicit false
set_option maxRecDepth 100000
set_option maxHeartbeats 1000000
/-! Sound24: own dunders. -/
namespace Pk
open PySem PySem.Spec PyProof.Rows L2

section
variable {S : Sx} {k j : Nat} {ca : String → Addr} {X : Cx} {R : Rd0} {f : Addr} {fd : FuncData} {ps : List Str} {F : Fn}
/-- a def is called from within a built-in: around A' -/
theorem dun_call (B : Bd S k ca X R) (G : FnG X.prog X.w X.K X.mg X.base j f fd ps (spF X.K ca F ps.length)) {A' : Around} (hr : Room j A') (hg : A'.guards = some []) {pins : List (Addr × Obj)} {s : Shared} {σ : L2.St} {Γ : Env} {M : Mem} {T : List Addr} {w : Wd} (hE : Env0 X.prog X.w X.K X.mg X.base A' X.stack s w.H)
    (hb : Binds X.K fd ps []) {us : List Value} {vs : List V} {ds : List D} {Q : VK} (I : Inv X pins σ w.H s) (b : Bears R w σ Γ M T) (rv : Vals vs us) (rd : RpAll R.K R.ca w vs ds) (hn : vs.length = ps.length)
    (o : OutR R σ Γ T w (F ds M) fun d _ w' => ∀ v, Rp R.K R.ca w' false v d → Q v w'.H) : wpAny (model X.prog X.w) A' (call (.ref f) us) (EP X pins σ Q) X.xe s := by
  have G' : FnG X.prog X.w X.K X.mg X.base j f fd ps (spF R.K R.ca F ps.length) := by rw [B.RK, B.Rca]; exact G
  have hl : us.length = ps.length := by rw [← rv.length, hn]
  have bt := hb s us I.kIn (by simpa using hl)
  rw [List.append_nil] at bt
  refine wpAny_call (codeAny_mono (G'.run A' X.stack s w.H ⟨us, []⟩ us vs Q (fun cls dx H => R.W cls dx σ H) hr hg hE bt rv (out_ok b hn rd o)) fun r s' hq => ?_)
  cases r with
  | error e => exact B.tk e s' (XE.of_call I (fun _ _ _ h => h) hq)
  | ok fl =>
    cases fl with
    | ret u => exact I.after hq
    | next => exact False.elim hq
    | brk => exact False.elim hq
    | cont => exact False.elim hq
/-- the instance as the rules of dunders want it -/
theorem inst_at (B : Bd S k ca X R) {pins : List (Addr × Obj)} {s : Shared} {σ : L2.St} {w : Wd} {b : Bool} {c : String} {ns : List String} {ds : List D} {v : V} {u : Value} (I : Inv X pins σ w.H s) (r : Rp R.K R.ca w b v (.ins c ns ds)) (ru : RelV v u) :
    ∃ (a : Addr) (ox : Obj) (od : Option Obj), u = .ref a ∧ PySem.W.InstAt s.heap a ox (ca c) od := by
  cases r with
  | ins h n z kk rr =>
    obtain ⟨mA, O, _⟩ := ins_get I.hok h
    obtain ⟨od, J, _⟩ := O.look
    exact ⟨_, _, od, ru, B.Rca ▸ J⟩
/-- what the written part says of a dunder: class c has it, its def is at f -/
structure Dn (X : Cx) (j : Nat) (ca : String → Addr) (c : String) (m : Str) (n : Nat) (F : Fn) : Prop where
  ex : ∃ (f : Addr) (fd : FuncData) (ps : List Str), PySem.W.findIn X.K (.ref (ca c)) m = some (some (.ref f)) ∧ PySem.W.isFn X.K (.ref f) = true ∧ FnG X.prog X.w X.K X.mg X.base j f fd ps (spF X.K ca F ps.length) ∧ Binds X.K fd ps [] ∧ ps.length = n
/-- the env of a call -/
theorem env0_of (B : Bd S k ca X R) {pins : List (Addr × Obj)} {s : Shared} {σ : L2.St} {w : Wd} {A' : Around} (hA : A'.frames = X.A.frames) (I : Inv X pins σ w.H s) : Env0 X.prog X.w X.K X.mg X.base A' X.stack s w.H := by
  have e := I.env0
  exact ⟨by rw [hA]; exact e.frames, e.mod, e.bs, e.bsz, e.funs, e.frf, e.hok, e.bare⟩
/-- len(instance) -/
theorem d_len (B : Bd S k ca X R) (hj : j + 1 ≤ k) {tb : Tab} (hd : ∀ c F', tb c "__len__" = some F' → ∃ F, F' = lenF F ∧ Dn X j ca c "__len__" 1 F) :
    ∀ (c : String) (F : Fn), tb c "__len__" = some F → ∀ (pins : List (Addr × Obj)) (s : Shared) (σ : L2.St) (Γ : Env) (M : Mem) (T : List Addr) (w : Wd) (ns : List String) (ds : List D) (v : V) (u : Value) (Q : VK), Inv X pins σ w.H s → Bears R w σ Γ M T →
      Rp R.K R.ca w false v (.ins c ns ds) → RelV v u → OutR R σ Γ T w (F [.ins c ns ds] M) (fun d _ w' => ∀ v, Rp R.K R.ca w' false v d → Q v w'.H) → wpAny (model X.prog X.w) X.A (call (.builtin "len") [u]) (EP X pins σ Q) X.xe s := by
  intro c F' hF' pins s σ Γ M T w ns ds v u Q I b r rv o
  obtain ⟨F, rfl, ⟨f, fd, ps, hs, hf, G, hb, hn⟩⟩ := hd c F' hF'
  obtain ⟨a, ox, od, rfl, J⟩ := inst_at B I r rv
  obtain ⟨m, hFr⟩ := I.fr
  refine PySem.W.len_K hFr I.ok.mod.kin J hs hf ?_
  have o1 : OutR R σ Γ T w (bnd (F [.ins c ns ds] M) _) _ := o
  refine wpAny_mono (dun_call (Q := fun v H => ∃ n : Int, v = .int n ∧ (0 ≤ n ∧ n < 2 ^ 63) ∧ Q (.int n) H) B G ((B.room.mono hj).in1) B.grd (env0_of B rfl I) hb I b (vs := [v]) (ds := [.ins c ns ds]) (us := [.ref a]) (.cons rv .nil) (.cons r .nil) (by rw [hn]; rfl) (o1.bnd.imp fun d M1 w1 e1 b1 o2 v1 r1 => ?_)) (fun u s' z => ?_) fun _ _ e => e
  · cases d with
    | int n =>
      cases r1
      have o3 : OutR R σ Γ T w1 (if 0 ≤ n ∧ n.toNat < 2 ^ 62 then Res.ok (D.int n) M1 else Res.stuck) _ := o2
      by_cases hc : 0 ≤ n ∧ n.toNat < 2 ^ 62
      · rw [if_pos hc] at o3
        exact ⟨n, rfl, ⟨hc.1, by omega⟩, OutR.here (a := D.int n) o3 b1 _ (.int _)⟩
      · rw [if_neg hc] at o3; exact o3.elim
    | _ => exact (show False from o2).elim
  · obtain ⟨v, H', I', r', n, rfl, hn, q⟩ := z
    obtain ⟨t, rfl⟩ := r'
    exact ⟨hn, ⟨V.int n, H', I'.tok _, ⟨_, rfl⟩, q⟩⟩
theorem blF_out {F : Fn} {ds : List D} {M : Mem} {Γ : Env} {T : List Addr} {σ : L2.St} {w : Wd} {Q : V → Hp → Prop} (o : OutR R σ Γ T w (blF F ds M) fun d _ w' => ∀ v, Rp R.K R.ca w' false v d → Q v w'.H) :
    OutR R σ Γ T w (F ds M) fun d _ w' => ∀ v, Rp R.K R.ca w' false v d → ∃ x, v = .bl x ∧ Q (.bl x) w'.H := by
  have o1 : OutR R σ Γ T w (bnd (F ds M) _) _ := o
  refine o1.bnd.imp fun d M1 w1 e1 b1 o2 v1 r1 => ?_
  cases d with
  | bl x => cases r1; exact ⟨x, rfl, OutR.here (a := D.bl x) o2 b1 _ (.bl _)⟩
  | _ => exact (show False from o2).elim
/-- x in instance -/
theorem d_in (B : Bd S k ca X R) (hj : j ≤ k) {tb : Tab} (hd : ∀ c F', tb c "__contains__" = some F' → ∃ F, F' = blF F ∧ Dn X j ca c "__contains__" 2 F) :
    ∀ (c : String) (F : Fn), tb c "__contains__" = some F →
    ∀ (pins : List (Addr × Obj)) (s : Shared) (σ : L2.St) (Γ : Env) (M : Mem) (T : List Addr) (w : Wd) (ns : List String) (ds : List D) (x : D) (vx vy : V) (u1 u2 : Value) (Q : VK), Inv X pins σ w.H s → Bears R w σ Γ M T →
      Rp R.K R.ca w false vx x → Rp R.K R.ca w false vy (.ins c ns ds) → RelV vx u1 → RelV vy u2 →
      OutR R σ Γ T w (F [.ins c ns ds, x] M) (fun d _ w' => ∀ v, Rp R.K R.ca w' false v d → Q v w'.H) → wpAny (model X.prog X.w) X.A (compareOp .In u1 u2) (EP X pins σ Q) X.xe s := by
  intro c F' hF' pins s σ Γ M T w ns ds x vx vy u1 u2 Q I b rx ry r1 r2 o
  obtain ⟨F, rfl, ⟨f, fd, ps, hs, hf, G, hb, hn⟩⟩ := hd c F' hF'
  obtain ⟨a, ox, od, rfl, J⟩ := inst_at B I ry r2
  obtain ⟨m, hFr⟩ := I.fr
  refine PySem.W.in_K hFr I.ok.mod.kin J hs hf ?_
  refine wpAny_mono (dun_call (Q := fun v H => ∃ x, v = .bl x ∧ Q (.bl x) H) B G (B.room.mono hj) B.grd (env0_of B rfl I) hb I b (vs := [vy, vx]) (.cons r2 (.cons r1 .nil)) (.cons ry (.cons rx .nil)) (by rw [hn]; rfl) (blF_out o)) (fun u s' z => ?_) fun _ _ e => e
  obtain ⟨v, H', I', r', y, rfl, q⟩ := z
  cases (show u = Value.bool y from r')
  exact wpAny_truthy_bool (b := y) ⟨V.bl y, H', I', rfl, q⟩
/-- x not in instance -/
theorem d_notIn (B : Bd S k ca X R) (hj : j ≤ k) {tb : Tab} (hd : ∀ c F', tb c "__contains__" = some F' → ∃ F, F' = blF F ∧ Dn X j ca c "__contains__" 2 F) :
    ∀ (c : String) (F : Fn), tb c "__contains__" = some F →
    ∀ (pins : List (Addr × Obj)) (s : Shared) (σ : L2.St) (Γ : Env) (M : Mem) (T : List Addr) (w : Wd) (ns : List String) (ds : List D) (x : D) (vx vy : V) (u1 u2 : Value) (Q : VK), Inv X pins σ w.H s → Bears R w σ Γ M T →
      Rp R.K R.ca w false vx x → Rp R.K R.ca w false vy (.ins c ns ds) → RelV vx u1 → RelV vy u2 →
      OutR R σ Γ T w (F [.ins c ns ds, x] M) (fun d _ w' => ∃ t : Bool, d = .bl t ∧ Q (.bl (!t)) w'.H) → wpAny (model X.prog X.w) X.A (compareOp .NotIn u1 u2) (EP X pins σ Q) X.xe s := by
  intro c F' hF' pins s σ Γ M T w ns ds x vx vy u1 u2 Q I b rx ry r1 r2 o
  obtain ⟨F, rfl, ⟨f, fd, ps, hs, hf, G, hb, hn⟩⟩ := hd c F' hF'
  obtain ⟨a, ox, od, rfl, J⟩ := inst_at B I ry r2
  obtain ⟨m, hFr⟩ := I.fr
  refine PySem.W.notIn_K hFr I.ok.mod.kin J hs hf ?_
  have o' : OutR R σ Γ T w (blF F [.ins c ns ds, x] M) fun d _ w' => ∀ v, Rp R.K R.ca w' false v d → ∃ t : Bool, v = .bl t ∧ Q (.bl (!t)) w'.H := OutR.imp o fun d M1 w1 _ _ h v r => by
    obtain ⟨t, rfl, h⟩ := h
    cases r
    exact ⟨t, rfl, h⟩
  refine wpAny_mono (dun_call (Q := fun v H => ∃ x, v = .bl x ∧ ∃ t : Bool, V.bl x = .bl t ∧ Q (.bl (!t)) H) B G (B.room.mono hj) B.grd (env0_of B rfl I) hb I b (vs := [vy, vx]) (.cons r2 (.cons r1 .nil)) (.cons ry (.cons rx .nil)) (by rw [hn]; rfl) (blF_out (Q := fun v H => ∃ t : Bool, v = .bl t ∧ Q (.bl (!t)) H) o')) (fun u s' z => ?_) fun _ _ e => e
  obtain ⟨v, H', I', r', y, rfl, t, e, q⟩ := z
  cases e
  cases (show u = Value.bool y from r')
  exact wpAny_truthy_bool (b := y) ⟨V.bl (!y), H', I', rfl, q⟩
/-- an instance as a test -/
theorem d_boolA (B : Bd S k ca X R) {A' : Around} (hr : Room j A') (hg : A'.guards = some []) (hA : A'.frames = X.A.frames) {c : String} {F : Fn} (hd : Dn X j ca c "__bool__" 1 F) {pins : List (Addr × Obj)} {s : Shared} {σ : L2.St} {Γ : Env} {M : Mem} {T : List Addr} {w : Wd} {ns : List String} {ds : List D} {v : V} {u : Value} {Q : Bool → Hp → Prop} (I : Inv X pins σ w.H s) (b : Bears R w σ Γ M T)
    (r : Rp R.K R.ca w false v (.ins c ns ds)) (ru : RelV v u) (o : OutR R σ Γ T w (F [.ins c ns ds] M) fun d _ w' => ∀ v, Rp R.K R.ca w' false v d → ∃ x, v = .bl x ∧ Q x w'.H) : wpAny (model X.prog X.w) A' (truthy u) (TP X pins σ Q) X.xe s := by
  obtain ⟨f, fd, ps, hs, hf, G, hb, hn⟩ := hd
  obtain ⟨a, ox, od, rfl, J⟩ := inst_at B I r ru
  obtain ⟨m, hFr⟩ := I.fr
  refine PySem.W.truthy_K hFr I.ok.mod.kin J hs hf ?_
  refine wpAny_mono (dun_call (Q := fun v H => ∃ x, v = .bl x ∧ Q x H) B G hr hg (env0_of B hA I) hb I b (vs := [v]) (.cons ru .nil) (.cons r .nil) (by rw [hn]; rfl) o) (fun u s' z => ?_) fun _ _ e => e
  obtain ⟨v, H', I', r', y, rfl, q⟩ := z
  cases (show u = Value.bool y from r')
  exact ⟨H', I', q⟩
end
end Pk

set_option Elab.async false
set_option linter.all false
set_option autoImplicit false
set_option maxRecDepth 100000
set_option maxHeartbeats 1000000
/-! Sound25: str and bool of an own instance. -/
namespace Pk
open PySem PySem.Spec PyProof.Rows L2

section
variable {S : Sx} {k j : Nat} {ca : String → Addr} {X : Cx} {R : Rd0} {f : Addr} {fd : FuncData} {ps : List Str} {F : Fn} {tb : Tab}
open PySem.Calls PySem.W Builtin in
/-- bool(instance), by what its own bool gives -/
theorem kso_bool {prog : Program} {w : World} {A : Around} {E : Value → Shared → Prop} {s : Shared} {x : Addr} {Q : Value → Shared → Prop}
    (h : wpAny (model prog w) A.in1.in1 (truthy (.ref x)) (fun b => Q (.bool b)) E s) : wpAny (model prog w) A (call (.type "bool") [.ref x]) Q E s := by
  refine PySem.callType_codes (T := "bool") (Bi := Builtin.«object.__init__») (Q₁ := fun r s₁ => ∃ y, r = .bool y ∧ Q r s₁) PySem.F.called_bool (PySem.F.typeCall_bool_1 _) PySem.F.entry_object_init ?_ ?_
  · refine codeAny_of_tree ?_
    show wpAny _ A.in1.in1 (do checkBuiltinCall "bool.__new__" ⟨[.type "bool", .ref x], []⟩; again (.builtin "bool.__new__" ⟨[.type "bool", .ref x], []⟩)) _ _ s
    refine wpAny_bind (wpAny_of_eq (PySem.F.newCall_bool_1 _) (wpAny_pure ⟨plainId_quiet (by decide +kernel) _, codeAny_builtin PySem.F.entry_bool_new ?_⟩))
    rw [Around.under_plainId (by decide +kernel) _]
    unfold Builtin.«bool.__new__»
    refine wpAny_bind (m := isType (.type "bool")) (wpAny_pure ?_)
    refine wpAny_bind (wpAny_of_eq PySem.F.conv_sub_bool ?_)
    refine wpAny_bind (m := someArgs "bool" 0 1 _) (wpAny_pure ?_)
    exact wpAny_bind (wpAny_mono h (fun b s₁ hb => wpAny_pure ⟨_, rfl, hb⟩) fun _ _ y => y)
  · rintro obj s₁ ⟨y, rfl, hq⟩
    exact ⟨rfl, PySem.F.args_object_init_2 _ _, object_init_meets PySem.F.called_bool.init.lookup PySem.F.called_bool.made (by decide) prog w A.in1 _ s₁ ⟨rfl, rfl, hq⟩⟩
theorem strF_out {F : Fn} {ds : List D} {M : Mem} {Γ : Env} {T : List Addr} {σ : L2.St} {w : Wd} {Q : V → Hp → Prop} (o : OutR R σ Γ T w (strF F ds M) fun d _ w' => ∀ v, Rp R.K R.ca w' false v d → Q v w'.H) :
    OutR R σ Γ T w (F ds M) fun d _ w' => ∀ v, Rp R.K R.ca w' false v d → ∃ x, v = .str x ∧ Q (.str x) w'.H := by
  have o1 : OutR R σ Γ T w (bnd (F ds M) _) _ := o
  refine o1.bnd.imp fun d M1 w1 e1 b1 o2 v1 r1 => ?_
  cases d with
  | str x => cases r1; exact ⟨_, rfl, OutR.here (a := D.str x) o2 b1 _ (.str _)⟩
  | _ => exact (show False from o2).elim
theorem RpB.upT {w : Wd} {b : Bool} : ∀ {vs : List V} {ds : List D}, RpB R.K R.ca w false vs ds → RpB R.K R.ca w b vs ds
  | _, _, .nil => .nil
  | _, _, .cons h t => .cons h.up (RpB.upT t)
/-- str(instance) or str(int) -/
theorem b_strq (B : Bd S k ca X R) (hj : j + 2 ≤ k) (hd : ∀ c F', tb c "__str__" = some F' → ∃ F, F' = strF F ∧ Dn X j ca c "__str__" 1 F) : CallPb false X R (.type "str") (pStrO tb) := by
  intro pins s σ Γ M T w ds vs us Q I b rs r o
  by_cases hk : ∃ c ns xs, ds = [.ins c ns xs]
  · obtain ⟨c, ns, xs, rfl⟩ := hk
    obtain ⟨v, rfl, rx⟩ := rs.one
    obtain ⟨u, rfl, rv⟩ := vals1 r
    have o1 : OutR R σ Γ T w (match tb c "__str__" with
      | some F => F [.ins c ns xs] M
      | none => .stuck) _ := o
    cases q : tb c "__str__" with
    | none => rw [q] at o1; exact o1.elim
    | some F' =>
      rw [q] at o1
      obtain ⟨F, rfl, ⟨f, fd, ps, hs, hf, G, hb, hn⟩⟩ := hd c F' q
      obtain ⟨a, ox, od, rfl, J⟩ := inst_at B I rx rv
      have hr := ((B.room.mono hj).in1 (k := j + 1)).in1 (k := j)
      refine PySem.W.kso_call hr.units0 I.kIn J hs hf ?_
      refine wpAny_mono (dun_call (Q := fun v H => ∃ x, v = .str x ∧ Q (.str x) H) B G hr B.grd (env0_of B rfl I) hb I b (vs := [v]) (.cons rv .nil) (.cons rx .nil) (by rw [hn]; rfl) (strF_out o1)) (fun u s' z => ?_) fun _ _ e => e
      obtain ⟨v, H', I', r', y, rfl, q⟩ := z
      obtain ⟨t, rfl⟩ := r'
      exact ⟨V.str y, H', I', ⟨_, rfl⟩, q⟩
  · refine b_str pins s σ Γ M T w ds vs us Q I b rs.upT r ?_
    match ds, hk, o with
    | [], _, o => exact o
    | x :: y :: t, _, o => exact (show False from (by cases x <;> exact o)).elim
    | [.ins c ns xs], hk, _ => exact (hk ⟨_, _, _, rfl⟩).elim
    | [.int _], _, o => exact o
    | [.non], _, o => exact o
    | [.bl _], _, o => exact o
    | [.str _], _, o => exact o
    | [.lst _], _, o => exact o
    | [.tup _], _, o => exact o
    | [.dict _ _], _, o => exact o
    | [.scr _], _, o => exact o
    | [.ref _], _, o => exact o
    | [.cls _], _, o => exact o
/-- bool -/
theorem b_boolq (B : Bd S k ca X R) (hj : j + 2 ≤ k) (hd : ∀ c F', tb c "__bool__" = some F' → ∃ F, F' = blF F ∧ Dn X j ca c "__bool__" 1 F) : CallPb false X R (.type "bool") (pBool tb) := by
  intro pins s σ Γ M T w ds vs us Q I b rs r o
  match ds, rs, o with
  | [], _, o => exact (show False from o).elim
  | x :: y :: t, _, o => exact (show False from (by cases x <;> exact o)).elim
  | [x], rs, o =>
    obtain ⟨v, rfl, rx⟩ := rs.one
    cases x with
    | bl y =>
      cases rx
      obtain ⟨u, rfl, rv⟩ := vals1 r
      cases (show u = Value.bool y from rv)
      exact call_bool_bool ⟨.bl y, w.H, I, rfl, OutR.here (a := D.bl y) o b _ (.bl _)⟩
    | int i =>
      cases rx
      obtain ⟨u, rfl, t, rfl⟩ := vals1 r
      refine call_bool_int ⟨.bl (decide (i ≠ 0)), w.H, I, ?_, OutR.here (a := D.bl (decide (i ≠ 0))) o b _ (.bl _)⟩
      show Value.bool (i != 0) = Value.bool (decide (i ≠ 0))
      congr 1
      by_cases h : i = 0 <;> simp [h]
    | ins c ns xs =>
      obtain ⟨u, rfl, rv⟩ := vals1 r
      have o1 : OutR R σ Γ T w (match tb c "__bool__" with
        | some F => F [.ins c ns xs] M
        | none => .stuck) _ := o
      cases q : tb c "__bool__" with
      | none => rw [q] at o1; exact o1.elim
      | some F' =>
        rw [q] at o1
        obtain ⟨F, rfl, hdn⟩ := hd c F' q
        have hr := ((B.room.mono hj).in1 (k := j + 1)).in1 (k := j)
        obtain ⟨a, ox, od, rfl, J⟩ := inst_at B I rx rv
        refine kso_bool (wpAny_mono (d_boolA (Q := fun x H => Q (.bl x) H) B hr B.grd rfl hdn I b rx rv (blF_out (Q := fun v H => Q v H) o1)) (fun x s' z => ?_) fun _ _ e => e)
        obtain ⟨H', I', q⟩ := z
        exact ⟨.bl x, H', I', rfl, q⟩
    | _ => exact (show False from o).elim
end
end Pk

set_option Elab.async false
set_option linter.all false
set_option autoImplicit false
set_option maxRecDepth 100000
set_option maxHeartbeats 1000000
/-! Sound26: an own + or - whose right side lies in the heap. -/
namespace Pk
open PySem PySem.Spec PyProof.Rows L2

open PySem.Calls PySem.W in
/-- an own operator; the right side is of a built-in type -/
theorem own_bin {prog : Program} {w : World} {A : Around} {E : Value → Shared → Prop} {s : Shared} {K : Frag} {x C f : Addr} {ox : Obj} {od : Option Obj} {T : String} {op : Operator} {b : Value} {fo ro rc : Option Value} {Q : Value → Shared → Prop}
    (X₀ : K.In s.heap) (I : InstAt s.heap x ox C od) (hb : Looks (model prog w) s.heap (typeOf b) (.type T)) (hc : selfFirst K C = true) (hs : findIn K (.ref C) (PySem.dunder op.info.2) = some (some (.ref f))) (hf : isFn K (.ref f) = true)
    (hr : findIn K (.ref C) (dunderR op.info.2) = some rc) (hp : rc = none ∨ ∃ g : Addr, rc = some (.ref g)) (h1 : findIn K (.type T) (PySem.dunder op.info.2) = some fo) (h2 : findIn K (.type T) (dunderR op.info.2) = some ro) (hsub : subIn K (.type T) (.ref C) = some false)
    (h : wpAny (model prog w) A (call (.ref f) [.ref x, b]) (PySem.W.CmpBack Q) E s) : wpAny (model prog w) A (binaryOp op (.ref x) b) Q E s := by
  obtain ⟨cd, rest, hcd, hm⟩ := ksp_first hc
  cases hi : op.info with
  | mk sym nm =>
  rw [hi] at hs hr h1 h2
  have go := ksp_try X₀ I hs hf h
  have a1 : Looks (model prog w) s.heap (typeOf (.ref x)) (.ref C) := I.type
  have a2 : Looks (model prog w) s.heap (fillsNumberSlot (.ref C) nm) true := fills_K X₀ hcd hm hs
  have a3 : Looks (model prog w) s.heap (fillsNumberSlot (.type T) nm) _ := ksp_fillsT X₀ h1 h2
  have a4 : Looks (model prog w) s.heap (isSubtype (.type T) (.ref C)) false := looks_subIn X₀ hsub
  have a5 : Looks (model prog w) s.heap (numberSlotInPython (.ref C) nm) true := ksp_inPy X₀ hs hr hp
  have a6 : Looks (model prog w) s.heap (numberSlotInPython (.type T) nm) false := Looks.of_pure rfl
  have a7 : Looks (model prog w) s.heap (typeLookup (.type T) (dunderR nm)) ro := looks_findIn X₀ h2
  obtain ⟨hh, g, d, tt, os⟩ := s
  generalize ((fo.isSome && !isSeqSlot fo) || (ro.isSome && !isSeqSlot ro)) = right at a3
  have ne : (Value.ref C == Value.type T) = false := Bool.eq_false_iff.mpr fun q => nomatch beq_iff_eq.mp q
  simp only [binaryOp, hi]
  refine wpAny_holding (wpAny_bind ?_)
  unfold binaryOp1
  refine wpAny_bind (a1.at (wpAny_bind (hb.at (wpAny_bind (a2.at ?_)))))
  simp only [ne, Bool.false_eq_true, if_false]
  cases right with
  | false =>
    ksp_lk
    refine wpAny_mono go (fun r s' z => ?_) fun _ _ e => e
    obtain ⟨v, rfl, q⟩ := z
    ksp_lk
    exact q
  | true =>
    ksp_lk
    refine wpAny_mono go (fun r s' z => ?_) fun _ _ e => e
    obtain ⟨v, rfl, q⟩ := z
    ksp_lk
    exact q
section
variable {S : Sx} {k j : Nat} {ca : String → Addr} {X : Cx} {R : Rd0} {tb : Tab}
/-- what an own + or - gives: not NotImplemented (no data of D is) -/
structure DnB (X : Cx) (j : Nat) (ca : String → Addr) (c : String) (op : Operator) (T : String) (F : Fn) : Prop where
  dn : Dn X j ca c (PySem.dunder op.info.2) 2 F
  hc : PySem.W.selfFirst X.K (ca c) = true
  hr : ∃ rc, PySem.W.findIn X.K (.ref (ca c)) (dunderR op.info.2) = some rc ∧ (rc = none ∨ ∃ g : Addr, rc = some (.ref g))
  h1 : ∃ fo, PySem.W.findIn X.K (.type T) (PySem.dunder op.info.2) = some fo
  h2 : ∃ ro, PySem.W.findIn X.K (.type T) (dunderR op.info.2) = some ro
  hs : PySem.W.subIn X.K (.type T) (.ref (ca c)) = some false
theorem d_binT (B : Bd S k ca X R) (hj : j ≤ k) {op : Operator} {m : String} (hd : ∀ c F', tb c m = some F' → ∃ F, F' = rT F ∧ DnB X j ca c op "tuple" F) : DunP false X R tb m (binaryOp op) := by
  intro c F' hF' pins s σ Γ M T w ns ds y vx vy u1 u2 Q I b rx ry r1 r2 o
  obtain ⟨F, rfl, D⟩ := hd c F' hF'
  obtain ⟨f, fd, ps, hs, hf, G, hb, hn⟩ := D.dn
  obtain ⟨rc, hr, hp⟩ := D.hr
  obtain ⟨fo, h1⟩ := D.h1
  obtain ⟨ro, h2⟩ := D.h2
  obtain ⟨a, ox, od, rfl, J⟩ := inst_at B I rx r1
  cases y with
  | tup ys =>
    obtain ⟨a2, vs, rfl, hy, ra⟩ := rp_tup ry
    obtain rfl : u2 = .ref a2 := r2
    refine own_bin (T := "tuple") I.kIn J ?_ D.hc hs hf hr hp h1 h2 D.hs ?_
    · obtain ⟨its, _, ⟨o2, ho, hcl, _⟩, _⟩ := I.tuple (B.RK ▸ hy)
      exact (PySem.W.Looks.ld ho).andThen (by rw [hcl]; exact .now)
    · refine wpAny_mono (dun_call (Q := Q) B G (B.room.mono hj) B.grd (env0_of B rfl I) hb I b (vs := [vx, .ref a2]) (.cons r1 (.cons rfl .nil)) (.cons rx (.cons ry .nil)) (by rw [hn]; rfl) o) (fun u s' z => ?_) fun _ _ e => e
      obtain ⟨v, H', I', r', q⟩ := z
      cases v with
      | non => cases (show u = Value.none from r'); exact ⟨V.non, H', I', rfl, q⟩
      | bl x => cases (show u = Value.bool x from r'); exact ⟨V.bl x, H', I', rfl, q⟩
      | int i => obtain ⟨t, rfl⟩ := r'; exact ⟨V.int i, H', I', ⟨_, rfl⟩, q⟩
      | str i => obtain ⟨t, rfl⟩ := r'; exact ⟨V.str i, H', I', ⟨_, rfl⟩, q⟩
      | byt i => obtain ⟨t, rfl⟩ := r'; exact ⟨V.byt i, H', I', ⟨_, rfl⟩, q⟩
      | flt i => obtain ⟨t, rfl⟩ := r'; exact ⟨V.flt i, H', I', ⟨_, rfl⟩, q⟩
      | ref x => cases (show u = Value.ref x from r'); exact ⟨V.ref x, H', I', rfl, q⟩
      | ty x => cases (show u = Value.type x from r'); exact ⟨V.ty x, H', I', rfl, q⟩
  | _ => exact (show False from o).elim
end
end Pk

set_option Elab.async false
set_option linter.all false
set_option autoImplicit false
set_option maxRecDepth 100000
set_option maxHeartbeats 1000000
/-! Sound27: class methods. -/
namespace Pk
open PySem PySem.Spec PyProof.Rows L2

theorem app_cons {R : Rd0} {σ : L2.St} {Γ : Env} {T : List Addr} {w : Wd} {M : Mem} {F : Fn} {a : Ex} {r : Exs} {Q : D → Mem → Wd → Prop} (o : OutR R σ Γ T w (ev (.app F (.cons a r)) Γ M) Q) :
    OutR R σ Γ T w (ev a Γ M) fun d M1 w1 => OutR R σ Γ T w1 (ev (.app (fun ds M => F (d :: ds) M) r) Γ M1) Q := by
  refine OutR.bnd (f := fun d M1 => ev (.app (fun ds M => F (d :: ds) M) r) Γ M1) ?_
  have o1 : OutR R σ Γ T w (bnd (bnd (ev a Γ M) fun d M => bnd (evs r Γ M) fun ds M => .ok (d :: ds) M) F) Q := o
  revert o1
  cases ev a Γ M with
  | ok d M1 =>
    simp only [bnd_ok]
    show _ → OutR R σ Γ T w (bnd (evs r Γ M1) fun ds M => F (d :: ds) M) Q
    cases evs r Γ M1 <;> exact id
  | err x M1 => exact id
  | stuck => exact id
section
variable {S : Sx} {k j : Nat} {ca : String → Addr} {X : Cx} {R : Rd0} {c : String} {mc : Value} {p g : Addr} {m : Str} {fd : FuncData} {ps ks : List Str} {F : Fn} {dv : List Value} {dvs : List V} {ix : List Nat} {dfl : List D} {o e : Expr} {es : List Expr} {kws : List Keyword} {ia ik : Exs} {io : Ex} {pos apos : Pos} {pl : Sem Bool} {z : Bool}
/-- C.m(e, .., k = v, ..), m a class method -/
theorem e_cmeth (B : Bd S k ca X R) (he : PE X o (tE R false io)) (r : ClX.CRead X.K (ca c) mc) (cm : ClX.CMet X.K (ca c) mc m p g) (G : FnG X.prog X.w X.K X.mg X.base j g fd ps (spF X.K ca F ps.length)) (hj : j ≤ k)
    (hb : KB X.K fd ps (ia.len + 1) ks dv ix) (hd : Vals dvs dv) (hD : ∀ w, RpAll R.K R.ca w dvs dfl) (ha : PA X (e :: es) (tA R false ia)) (hkw : PK X kws (tA R false ik)) (hks : kwNames kws = some ks) (hl : ik.len = ks.length) (hs : (e :: es).all noStar = true)
    (ht : eval (.Call (.Attribute o m apos) (e :: es) kws pos) X.env = (do
      let ov ← eval o X.env
      standAt apos.atName
      let (f, first) ← holding [ov] (getMethod ov m pl)
      callWith pos f first (backTo pos (starEach (e :: es) X.env)) (backToKw pos (keywordEach kws X.env))) := by rfl) :
    PE X (.Call (.Attribute o m apos) (e :: es) kws pos) (tE R z (.app (pickF ix dfl F) (.cons (.app (pCls c) (.cons io .nil)) (ia.app ik)))) := PE.up <| by
  refine ⟨fun pins s σ H Q I h => ?_⟩
  obtain ⟨w, Γ, M, T, hw, sr, oo⟩ := h
  subst hw
  obtain ⟨k1, k2, k3⟩ := kw_all (env := X.env) (pos := pos) hks
  refine PySem.W.methodCall_KW (pl := pl) (thn (he.run pins s σ w.H (fun v H' => v = .ref (ca c) ∧ ∃ M1 w1, w1.H = H' ∧ Bears R w1 σ Γ M1 T ∧ OutR R σ Γ T w1 (bnd (evs (ia.app ik) Γ M1) fun ds M => pickF ix dfl F (.cls c :: ds) M) fun d _ w' => ∀ v, Rp R.K R.ca w' false v d → Q v w'.H) I ⟨w, Γ, M, T, rfl, sr, ?_⟩) fun u s1 ⟨v, H1, I1, ru, rv, M1, w1, hw1, b1, o1⟩ => ?_) ht
  · refine (a1e (app_cons oo)).imp fun x M1 w1 e1 b1 o1 v rv => ?_
    cases x with
    | cls c' =>
      have o2 : OutR R σ Γ T w1 (if c' = c then Res.ok (D.cls c) M1 else Res.stuck) _ := o1
      by_cases hc : c' = c
      · subst hc
        rw [if_pos rfl] at o2
        cases rv
        exact ⟨by rw [B.Rca], M1, w1, rfl, b1, o2.here b1⟩
      · rw [if_neg hc] at o2; exact o2.elim
    | _ => exact (show False from o1).elim
  subst hw1 rv
  obtain rfl : u = Value.ref (ca c) := ru
  refine ClX.getmethcm_ok I1 r cm fun s2 I2 => ?_
  rw [List.all_cons, Bool.and_eq_true] at hs
  refine PySem.W.callWith_of (P := PySem.W.MethP X.K s1.heap.objs.size g (.ref (ca c))) ?_ (PySem.W.keeps_M cm.fi) (PyProof.Rows.evalArgs_kw2 k1 ?_ (star_cons hs.1))
  · rw [star_cons hs.1]
    show ((false || (backTo pos (starEach es X.env)).any (·.1)) || (backToKw pos (keywordEach kws X.env)).any (·.1.isNone)) = false
    rw [star_any hs.2, k3]; rfl
  refine thn (ha.run pos _ s2 σ w1.H (fun vs H' => ∃ ds M2 w2, w2.H = H' ∧ Ext w1 w2 ∧ Bears R w2 σ Γ M2 T ∧ RpAll R.K R.ca w2 vs ds ∧ ds.length = ia.len ∧ OutR R σ Γ T w2 (bnd (evs ik Γ M2) fun es M => pickF ix dfl F (.cls c :: (ds ++ es)) M) (fun d _ w' => ∀ v, Rp R.K R.ca w' false v d → Q v w'.H)) I2
    ⟨w1, Γ, M1, T, rfl, b1, (args2 (F := fun ds M => pickF ix dfl F (.cls c :: ds) M) o1).bnd.len.imp fun ds M2 w2 e2 b2 ⟨hl1, o2⟩ vs rs => ⟨ds, M2, w2, rfl, e2, b2, rs.down, hl1, o2⟩⟩) fun us s3 ⟨vs, H2, I3, rv, ds, M2, w2, hw2, e2, b2, rd, hl1, o2⟩ => ?_
  subst hw2
  refine thn (hkw.run pos _ s3 σ w2.H (fun zs H' => ∃ es M3 w3, w3.H = H' ∧ Ext w2 w3 ∧ Bears R w3 σ Γ M3 T ∧ RpAll R.K R.ca w3 zs es ∧ es.length = ik.len ∧ OutR R σ Γ T w3 (pickF ix dfl F (.cls c :: (ds ++ es)) M3) (fun d _ w' => ∀ v, Rp R.K R.ca w' false v d → Q v w'.H)) I3
    ⟨w2, Γ, M2, T, rfl, b2, o2.bnd.len.imp fun es M3 w3 e3 b3 ⟨hl2, o3⟩ zs rz => ⟨es, M3, w3, rfl, e3, b3, rz.down, hl2, o3⟩⟩) fun ws s4 ⟨zs, H3, I4, rz, es', M3, w3, hw3, e3, b3, re, hl2, o3⟩ => ?_
  subst hw3
  refine ⟨⟨ClX.pin_at I4, I4.kIn⟩, ?_⟩
  rw [k2]
  have r2 : Vals ((V.ref (ca c) :: vs) ++ zs ++ dvs) ((Value.ref (ca c) :: us) ++ ws ++ dv) := by
    have q : Vals (V.ref (ca c) :: vs) (Value.ref (ca c) :: us) := .cons rfl rv
    exact (q.append rz).append hd
  have rc : Rp R.K R.ca w3 false (V.ref (ca c)) (D.cls c) := by rw [← B.Rca]; exact .cls c
  have rp2 : RpAll R.K R.ca w3 ((V.ref (ca c) :: vs) ++ zs ++ dvs) ((D.cls c :: ds) ++ es' ++ dfl) := ((RpAll.cons rc (rd.ext e3)).append re).append (hD w3)
  have hn : (Value.ref (ca c) :: us).length = ia.len + 1 := by rw [List.length_cons, ← rv.length, rd.length, hl1]
  have hk : ws.length = ks.length := by rw [← rz.length, re.length, hl2, hl]
  have hix : ∀ i ∈ ix, i < ((Value.ref (ca c) :: us) ++ ws ++ dv).length := fun i hi => by
    have := hb.lt i hi
    rw [List.length_append, List.length_append, hn, hk]; exact this
  have hix2 : ∀ i ∈ ix, i < ((D.cls c :: ds) ++ es' ++ dfl).length := fun i hi => by
    rw [← rp2.length, r2.length]; exact hix i hi
  have o4 : OutR R σ Γ T w3 (F (pick .non ix ((D.cls c :: ds) ++ es' ++ dfl)) M3) (fun d _ w' => ∀ v, Rp R.K R.ca w' false v d → Q v w'.H) := o3
  have G' : FnG X.prog X.w X.K X.mg X.base j g fd ps (spF R.K R.ca F ps.length) := by rw [B.RK, B.Rca]; exact G
  have sp := out_ok (n := ps.length) (vs := pick .non ix ((V.ref (ca c) :: vs) ++ zs ++ dvs)) b3 (by unfold pick; rw [List.length_map]; exact hb.plen) (rp_pick rp2 ix hix2) o4
  have I5 := ClX.unpin I4
  refine wpAny_call (PySem.W.method_call (ClX.pin_at I4) (codeAny_mono (G'.run X.A X.stack s4 w3.H ⟨Value.ref (ca c) :: us, ks.zip ws⟩ _ _ Q _ (B.room.mono hj) B.grd I5.env0 (hb.to s4 _ ws I5.kIn hn hk) (vals_pick r2 ix hix) sp) fun r s' hq => ?_))
  cases r with
  | error e => exact B.tk e s' (XE.of_call I5 (fun _ _ _ h => h) hq)
  | ok fl =>
    cases fl with
    | ret u => exact I5.after hq
    | next => exact False.elim hq
    | brk => exact False.elim hq
    | cont => exact False.elim hq
/-- C.m(k = v, ..) -/
theorem e_cmeth0 (B : Bd S k ca X R) (he : PE X o (tE R false io)) (r : ClX.CRead X.K (ca c) mc) (cm : ClX.CMet X.K (ca c) mc m p g) (G : FnG X.prog X.w X.K X.mg X.base j g fd ps (spF X.K ca F ps.length)) (hj : j ≤ k)
    (hb : KB X.K fd ps 1 ks dv ix) (hd : Vals dvs dv) (hD : ∀ w, RpAll R.K R.ca w dvs dfl) (hkw : PK X kws (tA R false ik)) (hks : kwNames kws = some ks) (hl : ik.len = ks.length)
    (ht : eval (.Call (.Attribute o m apos) [] kws pos) X.env = (do
      let ov ← eval o X.env
      standAt apos.atName
      let (f, first) ← holding [ov] (getMethod ov m pl)
      callWith pos f first (backTo pos (starEach [] X.env)) (backToKw pos (keywordEach kws X.env))) := by rfl) :
    PE X (.Call (.Attribute o m apos) [] kws pos) (tE R z (.app (pickF ix dfl F) (.cons (.app (pCls c) (.cons io .nil)) ik))) := PE.up <| by
  refine ⟨fun pins s σ H Q I h => ?_⟩
  obtain ⟨w, Γ, M, T, hw, sr, oo⟩ := h
  subst hw
  obtain ⟨k1, k2, k3⟩ := kw_all (env := X.env) (pos := pos) hks
  refine PySem.W.methodCall_KW (pl := pl) (thn (he.run pins s σ w.H (fun v H' => v = .ref (ca c) ∧ ∃ M1 w1, w1.H = H' ∧ Bears R w1 σ Γ M1 T ∧ OutR R σ Γ T w1 (bnd (evs ik Γ M1) fun ds M => pickF ix dfl F (.cls c :: ds) M) fun d _ w' => ∀ v, Rp R.K R.ca w' false v d → Q v w'.H) I ⟨w, Γ, M, T, rfl, sr, ?_⟩) fun u s1 ⟨v, H1, I1, ru, rv, M1, w1, hw1, b1, o1⟩ => ?_) ht
  · refine (a1e (app_cons oo)).imp fun x M1 w1 e1 b1 o1 v rv => ?_
    cases x with
    | cls c' =>
      have o2 : OutR R σ Γ T w1 (if c' = c then Res.ok (D.cls c) M1 else Res.stuck) _ := o1
      by_cases hc : c' = c
      · subst hc
        rw [if_pos rfl] at o2
        cases rv
        exact ⟨by rw [B.Rca], M1, w1, rfl, b1, o2.here b1⟩
      · rw [if_neg hc] at o2; exact o2.elim
    | _ => exact (show False from o1).elim
  subst hw1 rv
  obtain rfl : u = Value.ref (ca c) := ru
  refine ClX.getmethcm_ok I1 r cm fun s2 I2 => ?_
  refine PySem.W.callWith_of (P := PySem.W.MethP X.K s1.heap.objs.size g (.ref (ca c))) ?_ (PySem.W.keeps_M cm.fi) (PyProof.Rows.evalArgs_kw2_nil k1 ?_)
  · show (false || (backToKw pos (keywordEach kws X.env)).any (·.1.isNone)) = false
    rw [k3]; rfl
  have o2 : OutR R σ Γ T w1 (bnd (evs ik Γ M1) fun es M => pickF ix dfl F (.cls c :: es) M) (fun d _ w' => ∀ v, Rp R.K R.ca w' false v d → Q v w'.H) := o1
  refine thn (hkw.run pos _ s2 σ w1.H (fun zs H' => ∃ es M3 w3, w3.H = H' ∧ Ext w1 w3 ∧ Bears R w3 σ Γ M3 T ∧ RpAll R.K R.ca w3 zs es ∧ es.length = ik.len ∧ OutR R σ Γ T w3 (pickF ix dfl F (.cls c :: es) M3) (fun d _ w' => ∀ v, Rp R.K R.ca w' false v d → Q v w'.H)) I2
    ⟨w1, Γ, M1, T, rfl, b1, o2.bnd.len.imp fun es M3 w3 e3 b3 ⟨hl2, o3⟩ zs rz => ⟨es, M3, w3, rfl, e3, b3, rz.down, hl2, o3⟩⟩) fun ws s4 ⟨zs, H3, I4, rz, es', M3, w3, hw3, e3, b3, re, hl2, o3⟩ => ?_
  subst hw3
  refine ⟨⟨ClX.pin_at I4, I4.kIn⟩, ?_⟩
  rw [k2]
  have r2 : Vals ([V.ref (ca c)] ++ zs ++ dvs) ([Value.ref (ca c)] ++ ws ++ dv) := by
    have q : Vals [V.ref (ca c)] [Value.ref (ca c)] := .cons rfl .nil
    exact (q.append rz).append hd
  have rc : Rp R.K R.ca w3 false (V.ref (ca c)) (D.cls c) := by rw [← B.Rca]; exact .cls c
  have rp2 : RpAll R.K R.ca w3 ([V.ref (ca c)] ++ zs ++ dvs) ([D.cls c] ++ es' ++ dfl) := ((RpAll.cons rc .nil).append re).append (hD w3)
  have hn : [Value.ref (ca c)].length = 1 := rfl
  have hk : ws.length = ks.length := by rw [← rz.length, re.length, hl2, hl]
  have hix : ∀ i ∈ ix, i < ([Value.ref (ca c)] ++ ws ++ dv).length := fun i hi => by
    have := hb.lt i hi
    rw [List.length_append, List.length_append, hn, hk]; exact this
  have hix2 : ∀ i ∈ ix, i < ([D.cls c] ++ es' ++ dfl).length := fun i hi => by
    rw [← rp2.length, r2.length]; exact hix i hi
  have o4 : OutR R σ Γ T w3 (F (pick .non ix ([D.cls c] ++ es' ++ dfl)) M3) (fun d _ w' => ∀ v, Rp R.K R.ca w' false v d → Q v w'.H) := o3
  have G' : FnG X.prog X.w X.K X.mg X.base j g fd ps (spF R.K R.ca F ps.length) := by rw [B.RK, B.Rca]; exact G
  have sp := out_ok (n := ps.length) (vs := pick .non ix ([V.ref (ca c)] ++ zs ++ dvs)) b3 (by unfold pick; rw [List.length_map]; exact hb.plen) (rp_pick rp2 ix hix2) o4
  have I5 := ClX.unpin I4
  refine wpAny_call (PySem.W.method_call (ClX.pin_at I4) (codeAny_mono (G'.run X.A X.stack s4 w3.H ⟨[Value.ref (ca c)], ks.zip ws⟩ _ _ Q _ (B.room.mono hj) B.grd I5.env0 (hb.to s4 _ ws I5.kIn hn hk) (vals_pick r2 ix hix) sp) fun r s' hq => ?_))
  cases r with
  | error e => exact B.tk e s' (XE.of_call I5 (fun _ _ _ h => h) hq)
  | ok fl =>
    cases fl with
    | ret u => exact I5.after hq
    | next => exact False.elim hq
    | brk => exact False.elim hq
    | cont => exact False.elim hq
/-- x(e, .., k = v, ..), x a local that holds the class c -/
theorem e_callC {x : Str} {px : Pos} (B : Bd S k ca X R) (he : PE X (.Name x px) (tE R false io)) (hk : PySem.W.keepIn X.K (.ref (ca c)) = true) (hc : CalR X R (.ref (ca c)) ia.len ks F) (ha : PA X (e :: es) (tA R false ia)) (hkw : PK X kws (tA R false ik)) (hks : kwNames kws = some ks)
    (hl : ik.len = ks.length) (hs : (e :: es).all noStar = true) : PE X (.Call (.Name x px) (e :: es) kws pos) (tE R z (.app (tailF F) (.cons (.app (pCls c) (.cons io .nil)) (ia.app ik)))) := PE.up <| by
  refine ⟨fun pins s σ H Q I h => ?_⟩
  obtain ⟨w, Γ, M, T, hw, sr, oo⟩ := h
  subst hw
  obtain ⟨k1, k2, k3⟩ := kw_all (env := X.env) (pos := pos) hks
  refine wpAny_Call_Name_kw (thn (he.run pins s σ w.H (fun v H' => v = .ref (ca c) ∧ ∃ M1 w1, w1.H = H' ∧ Bears R w1 σ Γ M1 T ∧ OutR R σ Γ T w1 (bnd (evs (ia.app ik) Γ M1) F) fun d _ w' => ∀ v, Rp R.K R.ca w' false v d → Q v w'.H) I ⟨w, Γ, M, T, rfl, sr, ?_⟩) fun u s1 ⟨v, H1, I1, ru, rv, M1, w1, hw1, b1, o1⟩ => ?_)
  · refine (a1e (app_cons oo)).imp fun x M1 w1 e1 b1 o1 v rv => ?_
    cases x with
    | cls c' =>
      have o2 : OutR R σ Γ T w1 (if c' = c then Res.ok (D.cls c) M1 else Res.stuck) _ := o1
      by_cases hc : c' = c
      · subst hc
        rw [if_pos rfl] at o2
        cases rv
        exact ⟨by rw [B.Rca], M1, w1, rfl, b1, o2.here b1⟩
      · rw [if_neg hc] at o2; exact o2.elim
    | _ => exact (show False from o1).elim
  subst hw1 rv
  obtain rfl : u = Value.ref (ca c) := ru
  rw [List.all_cons, Bool.and_eq_true] at hs
  refine PySem.W.callWith_KW (h₀ := X.base) I.ok.mod.kin hk k1 ?_ (by
    rw [star_cons hs.1]
    show ((false || (backTo pos (starEach es X.env)).any (·.1)) || (backToKw pos (keywordEach kws X.env)).any (·.1.isNone)) = false
    rw [star_any hs.2, k3]; rfl) (star_cons hs.1)
  refine thn (ha.run pos pins s1 σ w1.H (fun vs H' => ∃ ds M2 w2, w2.H = H' ∧ Ext w1 w2 ∧ Bears R w2 σ Γ M2 T ∧ RpAll R.K R.ca w2 vs ds ∧ ds.length = ia.len ∧ OutR R σ Γ T w2 (bnd (evs ik Γ M2) fun es M => F (ds ++ es) M) (fun d _ w' => ∀ v, Rp R.K R.ca w' false v d → Q v w'.H)) I1
    ⟨w1, Γ, M1, T, rfl, b1, (args2 (F := F) o1).bnd.len.imp fun ds M2 w2 e2 b2 ⟨hl1, o2⟩ vs rs => ⟨ds, M2, w2, rfl, e2, b2, rs.down, hl1, o2⟩⟩) fun us s2 ⟨vs, H2, I2, rv, ds, M2, w2, hw2, e2, b2, rd, hl1, o2⟩ => ?_
  subst hw2
  exact call_last hc hkw hks hl s2 us vs ds M2 w2 I2 b2 rv rd (by rw [← rv.length, rd.length, hl1]) o2
end
end Pk

set_option Elab.async false
set_option linter.all false
set_option autoImplicit false
set_option maxRecDepth 100000
set_option maxHeartbeats 1000000
/-! Sound28: own ==. -/
namespace Pk
open PySem PySem.Spec PyProof.Rows L2

section
variable {S : Sx} {k j : Nat} {ca : String → Addr} {X : Cx} {R : Rd0} {tb : Tab}
theorem d_eqI (B : Bd S k ca X R) (hj : j ≤ k) (hd : ∀ c F', tb c "__eq__" = some F' → ∃ F, F' = rIns c (blF F) ∧ Dn X j ca c "__eq__" 2 F) : DunP false X R tb "__eq__" (compareOp .Eq) := by
  intro c F' hF' pins s σ Γ M T w ns ds y vx vy u1 u2 Q I b rx ry r1 r2 o
  obtain ⟨F, rfl, f, fd, ps, hs, hf, G, hb, hn⟩ := hd c F' hF'
  obtain ⟨a, ox, od, rfl, J⟩ := inst_at B I rx r1
  cases y with
  | ins c' ns' ds' =>
    have o1 : OutR R σ Γ T w (if c' = c then blF F [.ins c ns ds, .ins c' ns' ds'] M else .stuck) _ := o
    by_cases hc : c' = c
    · subst hc
      rw [if_pos rfl] at o1
      obtain ⟨a2, ox2, od2, rfl, J2⟩ := inst_at B I ry r2
      obtain ⟨m, hFr⟩ := I.fr
      refine wpAny_mono (PySem.W.cmp_K (op := .Eq) (tb := .ref (ca c')) (Q := EP X pins σ Q) B.room.units0 hFr I.ok.mod.kin J J2.type (by simp [PySem.W.notFirst]) hs hf ?_) (fun u s' z => z) fun _ _ e => e
      refine wpAny_mono (dun_call (Q := fun v H => ∃ x, v = .bl x ∧ Q (.bl x) H) B G (B.room.mono hj) B.grd (env0_of B rfl I) hb I b (vs := [vx, vy]) (.cons r1 (.cons r2 .nil)) (.cons rx (.cons ry .nil)) (by rw [hn]; rfl) (blF_out o1)) (fun u s' z => ?_) fun _ _ e => e
      obtain ⟨v, H', I', r', x, rfl, q⟩ := z
      cases (show u = Value.bool x from r')
      exact ⟨V.bl x, H', I', rfl, q⟩
    · rw [if_neg hc] at o1; exact o1.elim
  | _ => exact (show False from o).elim
section
variable {f : Addr} {fd : FuncData} {ps ks : List Str} {F : Fn} {x : Str} {p pos : Pos} {e : Expr} {es : List Expr} {kws : List Keyword} {ia ik : Exs} {z : Bool} {dv : List Value} {dvs : List V} {ix : List Nat} {dfl : List D}
/-- a class of values is called by position and keyword, with defaults -/
theorem c_mkVk (B : Bd S k ca X R) {C : Addr} {c : String} (Mm : Mk X.K C f) (G : FnG X.prog X.w X.K X.mg X.base j f fd ps (spF X.K ca F ps.length)) (hj : j + 1 ≤ k) (hx : okGl S x = true) (hm : X.mg x = some (.ref C)) (hb : KB X.K fd ps (ia.len + 1) ks dv ix)
    (hd : Vals dvs dv) (hD : ∀ w, RpAll R.K R.ca w dvs dfl) (ha : PA X (e :: es) (tA R false ia)) (hkw : PK X kws (tA R false ik)) (hks : kwNames kws = some ks) (hl : ik.len = ks.length) (hs : (e :: es).all noStar = true) (hC : ca c = C) :
    PE X (.Call (.Name x p) (e :: es) kws pos) (tE R z (.app (mkV c (pickF ix dfl F)) (ia.app ik))) := PE.up <| by
  obtain ⟨g1, g2, g3⟩ := gl_of B hx
  have G' : FnG X.prog X.w X.K X.mg X.base j f fd ps (spF R.K R.ca F ps.length) := by rw [B.RK, B.Rca]; exact G
  exact e_call g1 hm Mm.kp (cal_mkV (c := c) Mm G' (B.room.mono hj) B.grd hb hd hD B.tk (by rw [B.Rca]; exact hC)) ha hkw hks hl hs g2
/-- .. by keyword alone -/
theorem c_mkVk0 (B : Bd S k ca X R) {C : Addr} {c : String} (Mm : Mk X.K C f) (G : FnG X.prog X.w X.K X.mg X.base j f fd ps (spF X.K ca F ps.length)) (hj : j + 1 ≤ k) (hx : okGl S x = true) (hm : X.mg x = some (.ref C)) (hb : KB X.K fd ps 1 ks dv ix)
    (hd : Vals dvs dv) (hD : ∀ w, RpAll R.K R.ca w dvs dfl) (hkw : PK X kws (tA R false ik)) (hks : kwNames kws = some ks) (hl : ik.len = ks.length) (hC : ca c = C) : PE X (.Call (.Name x p) [] kws pos) (tE R z (.app (mkV c (pickF ix dfl F)) ik)) := PE.up <| by
  obtain ⟨g1, g2, g3⟩ := gl_of B hx
  have G' : FnG X.prog X.w X.K X.mg X.base j f fd ps (spF R.K R.ca F ps.length) := by rw [B.RK, B.Rca]; exact G
  exact e_call0 g1 hm Mm.kp (cal_mkV (n := 0) (c := c) Mm G' (B.room.mono hj) B.grd hb hd hD B.tk (by rw [B.Rca]; exact hC)) hkw hks hl g2
end
end
end Pk

set_option Elab.async false
set_option linter.all false
set_option autoImplicit false
set_option maxRecDepth 100000
set_option maxHeartbeats 1000000
/-! Sound29: the end: a law's def, promised without guards. -/
namespace Pk
open PySem PySem.Spec PyProof.Rows L2

section
variable {S : Sx} {k j n : Nat} {ca : String → Addr} {X : Cx} {R : Rd0} {f : Addr} {fd : FuncData} {ps : List Str} {F : Fn}
theorem rp_cls (B : Bd S k ca X R) {c : String} : ∀ w, Rp R.K R.ca w false (.ref (ca c)) (.cls c) := fun w => by rw [← B.Rca]; exact .cls c
theorem rp_dfl (B : Bd S k ca X R) {t : Addr} (h : KT X.K t []) : ∀ w, RpAll R.K R.ca w [V.ref t] [.tup []] := fun w => by rw [B.RK]; exact .cons (.tup (.inr h) .nil) .nil
theorem fnG_B (B : Bd S k ca X R) (G : FnG X.prog X.w X.K X.mg X.base j f fd ps (spF X.K ca F n)) : FnG X.prog X.w X.K X.mg X.base j f fd ps (spF R.K R.ca F n) := by rw [B.RK, B.Rca]; exact G
/-- a property that reads an attribute, from its def -/
theorem propG_mk {C p g : Addr} {fd : FuncData} {x y qual : String} {st : Stmt} {p1 p2 p3 : Pos} (c : Cls X.K C) (na : NoAttr X.K C (Str.ofString y)) (pr : PropOf X.K C (Str.ofString x) p g) (Fx : L2.Fun X.K (Str.ofString x) (Str.ofString qual) st g fd) (b : Binds X.K fd ["self"] [])
    (Sc : FnScope ["self"] ["self"] (defScope st)) (hb : defBody st = [.Return (some (.Attribute (.Name "self" p1) (Str.ofString y) p2)) p3]) : PropG X 1 C x y := by
  obtain ⟨oc, od, kV, doc, pm, an, cdv, ct, osl, rfl, lk, hcd⟩ := Fx.ex
  exact ⟨c, p, g, _, pr, fn_getter (k := 0) lk hcd Sc rfl hb c na, b⟩
end
theorem kit_self {K : PySem.W.Frag} {C : Addr} : PySem.W.kitOne K (.ref C) (.ref C) = some true := by
  unfold PySem.W.kitOne
  rw [if_pos (by simp)]
theorem kit_not {K : PySem.W.Frag} {C : Addr} {T : String} {b : Bool} (h1 : PySem.W.isClsIn K C = true) (h2 : PySem.W.typeIn K (.ref C) = some (.type "type")) (h3 : PySem.W.subIn K (.type T) (.ref C) = some b) : PySem.W.kitOne K (.type T) (.ref C) = some b := by
  have h1 : (PySem.W.clsIn K C).isSome = true := h1
  unfold PySem.W.kitOne
  rw [if_neg (by simp)]
  unfold PySem.W.kitCls
  show (if ((PySem.W.clsIn K C).isSome && PySem.W.typeIn K (.ref C) == some (.type "type")) = true then _ else _) = _
  rw [h1, h2, if_pos (by simp)]
  exact h3
/-- the world at the entry of a law -/
def wd0 (H : Hp) : Wd := ⟨[], fun _ => False, H⟩
theorem scr_ints {K : PySem.W.Frag} {ca : String → Addr} {w : Wd} : ∀ ns : List Int, RpAll K ca w (ns.map V.int) (ns.map D.int)
  | [] => .nil
  | n :: ns => .cons (.int n) (scr_ints ns)
/-- what a law promises, by what IR says -/
theorem sp_law {K : PySem.W.Frag} {ca : String → Addr} {F : Fn} {ns : List Int} {H : Hp} {a : Addr} (hF : ∃ M', F [.scr (ns.map .int)] [] = .ok (.bl true) M') (hO : Only H) (hS : SqL K H a (ns.map V.int)) :
    spF K ca F 1 [.ref a] H (fun v _ => v = .bl true) fun _ _ _ => False := by
  obtain ⟨M', hF⟩ := hF
  refine ⟨rfl, wd0 H, [.scr (ns.map .int)], [], rfl, .cons (.scr ?_ (scr_ints ns)) .nil, ⟨rfl, List.nodup_nil, fun _ h => (nomatch h), fun k c h => by simp at h⟩, fun _ h => h.elim, ?_⟩
  · rcases hS with (h | ⟨o, h⟩) | h
    · rcases hO a with q | ⟨o, xs, q⟩
      · rw [q] at h; cases h
      · rw [q] at h; cases h
    · exact .inl ⟨o, h, fun z => nomatch z⟩
    · exact .inr (.inr h)
  · rw [hF]
    intro v w' _ _ _ r
    cases r
    rfl
/-- a promise without guards, for the place from which a law is called -/
theorem law_goG {P : Program} {w : World} {K : PySem.W.Frag} {mg mb : Str → Option Value} {k : Nat} {fa a : Addr} {fd : FuncData} {x : Str} {sp : Sp} {s : Shared} {us : List Value} {ns : List Int}
    (hK : K.In s.heap) (hN : s.heap.Ns mainGlobals mg) (hB : s.heap.Ns builtinsNs mb) (hBB : ∀ y : Str, y ≠ "__name__" → mb y = bootBuiltins y) (hL : s.heap.NoLimit) (hG : s.gens = #[])
    (hA : s.heap.get? a = some { cls := .type "list", data := .seq us.toArray }) (hI : IntsAre us ns) (hn : ns.length ≤ sizeLine) (hR : Room k callerA)
    (F : ∀ base : Heap, K.In base → base.Ns mainGlobals mg → FnG P w K mg base k fa fd [x] sp) (hb : ∀ (s : Shared) (u : Value), BindsTo s fd ⟨[u], []⟩ [(x, u)])
    (hsp : ∀ H : Hp, Only H → SqL K H a (ns.map V.int) → sp [.ref a] H (fun v _ => v = .bl true) fun _ _ _ => False) :
    codeAny (model P w) callerA (.call (.ref fa) ⟨[.ref a], []⟩) (fun r t => r = .ok (.ret (.bool true)) ∧ OldK s.heap t.heap ∧ t.os = s.os ∧ AllBare t.gens) s := by
  have rv := vals_ints hI
  -- H: nothing, or the script alone
  have main : ∀ H : Hp, Only H → SqL K H a (ns.map V.int) → HOk P w H s.heap → (∀ c, H c ≠ none → c = a) → (H a ≠ none → K.lookup a = none) →
      codeAny (model P w) callerA (.call (.ref fa) ⟨[.ref a], []⟩) (fun r t => r = .ok (.ret (.bool true)) ∧ OldK s.heap t.heap ∧ t.os = s.os ∧ AllBare t.gens) s := fun H hO hS hok one own => by
    have clear : ∀ {c : Addr} {o : Obj}, s.heap.get? c = some o → (∀ vs, o ≠ { cls := .type "list", data := .seq vs }) → H c = none := fun {c o} e ne => by
      by_cases q : H c = none
      · exact q
      · have := one c q
        subst this
        rw [hA] at e
        cases e
        exact absurd rfl (ne _)
    have ns' : ∀ {c : Addr} {m : Str → Option Value}, s.heap.Ns c m → (hidT s.heap H).Ns c m := fun {c m} ⟨o, es, n, e, d, r⟩ =>
      ⟨o, es, n, hidT_get e (clear e fun vs z => by rw [z] at d; cases d), d, r⟩
    have inB : K.In (hidT s.heap H) := fun c o e => hidT_get (hK c o e) (by
      by_cases q : H c = none
      · exact q
      · have := one c q
        subst this
        rw [own q] at e; cases e)
    have md : Mod K mg (hidT s.heap H) := ⟨inB, ns' hN, ⟨mb, ns' hB, hBB⟩, by obtain ⟨mc, h1, h2⟩ := hL; exact ⟨mc, ns' h1, h2⟩⟩
    have E : Env0 P w K mg (hidT s.heap H) callerA [] s H := ⟨rfl, md, fun c o e => of_hidT e, Nat.le_of_eq (hidT_size _ _), trivial, fun c hc => (by cases hc), hok, .of_eq hG⟩
    have go := (F _ inB (ns' hN)).run callerA [] s H ⟨[.ref a], []⟩ [.ref a] [.ref a] _ _ hR rfl E (hb s (.ref a)) (.cons rfl .nil) (hsp H hO hS)
    refine codeAny_mono go fun r t h => ?_
    rcases r with e | fl
    · obtain ⟨_, _, _, _, _, _, _, _, _, _, _, _, z⟩ := h
      exact False.elim z
    · cases fl with
      | ret u =>
        obtain ⟨v, H2, h1, h2, h3, h4, rr, q⟩ := h
        cases (show v = .bl true from q)
        cases (show u = Value.bool true from rr)
        refine ⟨rfl, OldK.of_keep fun c o e => ?_, h1, h2⟩
        rcases hO c with z | ⟨ob, xs, z⟩
        · exact h3.keep c o e z (fun y => (by cases y)) (by simp)
        · have e1 := (hok c _ z).1
          have e2 := (h4 c _ (h3.frzs c ob _ z)).1
          rw [e] at e1
          cases e1
          exact e2
      | _ => exact False.elim h
  cases hk : K.lookup a with
  | some o =>
    have e := hK a o hk
    rw [hA] at e
    cases e
    exact main (fun _ => none) (fun _ => .inl rfl) (.inr ⟨_, us.toArray, _, hk, rfl, rfl, rfl, by rw [List.size_toArray, hI.length]; exact hn, by simpa using rv⟩) (fun c u z => nomatch (show (none : Option HO) = some u from z)) (fun c z => absurd rfl z) fun z => absurd rfl z
  | none =>
    let ob : Obj := { cls := .type "list", data := .seq us.toArray }
    have iff : ∀ c, (if c = a then some (HO.frz ob (.lst (ns.map V.int))) else none) ≠ none → c = a := fun c z => by
      by_cases q : c = a
      · exact q
      · rw [if_neg q] at z; exact absurd rfl z
    refine main (fun c => if c = a then some (.frz ob (.lst (ns.map V.int))) else none) (fun c => ?_) (.inl (.inr ⟨ob, if_pos rfl⟩)) (fun c u z => ?_) iff fun _ => hk
    · by_cases q : c = a
      · exact .inr ⟨_, _, if_pos q⟩
      · exact .inl (if_neg q)
    · have q := iff c (by show (if c = a then some (HO.frz ob (.lst (ns.map V.int))) else none) ≠ none; rw [show (if c = a then some (HO.frz ob (.lst (ns.map V.int))) else none) = some u from z]; simp)
      subst q
      have z : (if c = c then some (HO.frz ob (.lst (ns.map V.int))) else none) = some u := z
      rw [if_pos rfl] at z
      cases z
      exact ⟨hA, by rw [List.length_map]; exact hn, us, _, rv, hA⟩
/-- THE END -/
theorem walkG {l : PySem.W.OpenLaw} {k : Nat} {q : Program} {loose : List Str} {XP : (Str → Option Value) → Heap → Prop} {YP : World → Heap → Prop} {d : DefRec} {K : Params → PySem.W.Frag} {F_law : Fn}
    (hm : l.most = some 63) (hd : d.params.defaults = []) (hR : Room k callerA) (hY : ∀ (w : World) (h : Heap), YP w h → (K w.params).In h)
    (hF : ∀ ns : List Int, ns.length ≤ 63 → (∀ z ∈ ns, Builtin.Int.intBits z ≤ 1048576) → ∃ M', F_law [.scr (ns.map .int)] [] = .ok (.bl true) M')
    (F : ∀ (w : World) (mg : Str → Option Value) (fa : Addr) (h : Heap), (K w.params).In h → h.Ns mainGlobals mg → mg d.name = some (.ref fa) →
      ∃ (fd : FuncData) (ca : String → Addr), (∀ (s : Shared) (u : Value), BindsTo s fd ⟨[u], []⟩ [("script", u)]) ∧ ∀ base : Heap, FnG l.prog w (K w.params) mg base k fa fd ["script"] (spF (K w.params) ca F_law 1)) :
    PySem.W.WalkO q loose XP YP l.row.toRowW d [] (fun f vs => PySem.call f vs) := by
  refine Att.attach_callB hm hd fun w s₀ s mg mb fa o pm cd doc a us ns G Y ho hd' hcd hmg hobj hints hlen hbits hg => ?_
  have KX := hY w _ Y
  obtain ⟨fd, ca, hb, hG⟩ := F w mg fa _ KX G.T.g hmg
  exact law_goG KX G.T.g G.T.b G.T.builtins G.T.nolimit hg hobj hints (Nat.le_trans hlen (by decide)) hR (fun base _ _ => hG base) hb fun H hO hS => sp_law (hF ns hlen hbits) hO hS
end Pk

set_option Elab.async false
set_option linter.all false
set_option autoImplicit false
set_option maxRecDepth 100000
set_option maxHeartbeats 1000000
/-! Sound30: own errors raised (classes over ValueError, one attribute). -/
namespace Pk
open PySem PySem.Spec PyProof.Rows L2

/-- an own error with one attribute -/
def pExc (c f : String) : Fn := fun ds M => match ds with
  | [d] => .ok (.ins c [f] [d]) M
  | _ => .stuck
/-- what the __init__ of such a class does: self.f = f -/
def spE (C : Addr) (f : Str) : Sp := fun vs H Q _ => ∃ (a : Addr) (v : V), vs = [.ref a, v] ∧ H a = some (exo a C none) ∧ ∀ dx, H dx = none → dx ≠ a → Q .non (upd (upd H dx (exd dx [(f, v)])) a (exo a C (some dx)))
section
variable {P : Program} {w : World} {K : PySem.W.Frag} {mg : Str → Option Value} {base : Heap}
theorem ok_einit {C fI : Addr} {fd : FuncData} {f : Str} {qual : Str} {st : Stmt} {p1 p2 p3 p4 : Pos} (Fi : L2.Fun K "__init__" qual st fI fd) (S : FnScope ["self", f] ["self", f] (defScope st)) (hb : defBody st = [.Assign [.Attribute (.Name "self" p1) f p2] (.Name f p3) p4]) (T : OexC K C) (no : PySem.W.findIn K (.ref C) f = some none)
    (h1 : (f == ("__debug__" : Str)) = false) (h2 : (f == ("__classdict__" : Str)) = false) : FnOk P w K mg base CX0 1 fI fd ["self", f] (spE C f) := by
  refine Fi.ok S (fun vs H Q E h => ?_) (fun cdv A outer s H vs Q E hr h => ?_)
  · obtain ⟨a, v, rfl, _⟩ := h
    rfl
  · obtain ⟨a, v, rfl, ha, q⟩ := h
    rw [hb]
    have v0 : Vis (defScope st) "self" := (S.par "self" (List.Mem.head _)).elim (fun z => .inl z) (fun z => .inr (.inl z))
    have v1 : Vis (defScope st) f := (S.par f (List.Mem.tail _ (List.Mem.head _))).elim (fun z => .inl z) (fun z => .inr (.inl z))
    refine ⟨_, pss_one (ps_ost (pe_var (i := 0) rfl v0) (pe_var (i := 1) rfl v1 h1 h2) rfl), ?_⟩
    exact ⟨v, rfl, .ref a, rfl, a, C, rfl, T, no, .inl ⟨ha, fun dx hd hn => q dx hd hn⟩⟩
end
section
variable {S : Sx} {k : Nat} {ca : String → Addr} {X : Cx} {R : Rd0}
/-- what the written part says of such a class -/
structure ErrC (X : Cx) (C : Addr) (f : String) : Prop where
  T : OexC X.K C
  no : PySem.W.findIn X.K (.ref C) (Str.ofString f) = some none
  ex : ∃ (fI : Addr) (fd : FuncData), PySem.W.findIn X.K (.ref C) "__init__" = some (some (.ref fI)) ∧ PySem.W.typeIn X.K (.ref fI) = some (.type "function") ∧ FnOk X.prog X.w X.K X.mg X.base CX0 1 fI fd ["self", Str.ofString f] (spE C (Str.ofString f)) ∧ Binds X.K fd ["self", Str.ofString f] []
theorem s_raise1 {x : Str} {c f : String} {e : Expr} {ia : Ex} {p pos pos2 : Pos} (B : Bd S k ca X R) (hk : 3 ≤ k) (hx : okGl S x = true) (hm : X.mg x = some (.ref (ca c))) (E : ErrC X (ca c) f) (he : PE X e (tE R false ia)) (hs : starEach [e] X.env = (false, eval e X.env) :: starEach [] X.env) (hn : noStar e = true) :
    PS X (.Raise (some (.Call (.Name x p) [e] [] pos)) none pos2) (tM R (.raise (.app (pExc c f) (.cons ia .nil)))) := by
  obtain ⟨fI, fd, iC, tI, F1, hb⟩ := E.ex
  obtain ⟨g1, g2, g3⟩ := gl_of B hx
  refine PSmono (ps_raise B.calm B.tk (pmk_oex (dvs := []) (ds := []) E.T iC tI F1 (B.room.mono (by omega)) hb .nil pass0 g1 hm (pa_cons he pa_nil hs) g2 hs (by rfl))) fun DD σ H ⟨w, Γ, M, hw, b, o⟩ => ?_
  subst hw
  have o : OutS R w (Pk.vS (bnd (evs (.cons ia .nil) Γ M) (pExc c f)) Γ fun d M => .err d Γ M) DD := o
  have o1 := OutS.vS b o
  have o2 : OutR R σ Γ [] w (ev (.app (pExc c f) (.cons ia .nil)) Γ M) _ := o1
  refine ⟨w, Γ, M, [], rfl, b, (a1e o2).imp fun d M1 w1 e1 b1 o3 v r => ?_⟩
  have o4 := OutR.here (a := D.ins c [f] [d]) o3 b1
  refine ⟨by simp, fun a ha => ?_⟩
  refine ⟨a, v, rfl, upd_same, fun dx hd hne => ⟨rfl, dx, [(Str.ofString f, v)], upd_same, ?_, ?_, ?_⟩⟩
  · rw [upd_ne hne, upd_same]
  · rw [upd_ne hne] at hd; exact hd
  · have hd1 : w1.H dx = none := by rw [upd_ne hne] at hd; exact hd
    have eH : upd (del (upd (upd (upd w1.H a (exo a (ca c) none)) dx (exd dx [(Str.ofString f, v)])) a (exo a (ca c) (some dx))) a) dx (.xd [(Str.ofString f, v)]) = upd w1.H dx (.xd [(Str.ofString f, v)]) := by
      funext y
      by_cases h1 : y = dx
      · subst h1; rw [upd_same, upd_same]
      · rw [upd_ne h1, upd_ne h1]
        by_cases h2 : y = a
        · subst h2; rw [del_same, ha]
        · rw [del_ne h2, upd_ne h2, upd_ne h1, upd_ne h2]
    rw [eH]
    have o5 : ∀ σ' cls dx w', Pres w1 w' → Bears R w' σ' Γ M1 [] → ExR R.K R.ca w' (.ins c [f] [d]) cls dx → R.W cls dx σ' w'.H := o4
    have ex : Ext w1 (w1.at dx (.xd [(Str.ofString f, v)])) := Ext.at hd1
    refine o5 σ (.ref (ca c)) (some dx) (w1.at dx (.xd [(Str.ofString f, v)])) (Ext.pres ex b1) (b1.at hd1) ⟨c, [f], [d], dx, [(Str.ofString f, v)], rfl, by rw [B.Rca], rfl, upd_same, fun h => ?_, fun h => b1.zt dx h hd1, rfl, .cons (r.ext ex) .nil⟩
    exact b1.zt dx (b1.mem.z dx h) hd1
end
end Pk

set_option Elab.async false
set_option linter.all false
set_option autoImplicit false
set_option maxRecDepth 100000
set_option maxHeartbeats 1000000
/-! Sound31: defs called by keyword, with defaults. -/
namespace Pk
open PySem PySem.Spec PyProof.Rows L2
section
variable {S : Sx} {k j n : Nat} {ca : String → Addr} {X : Cx} {R : Rd0} {f : Addr} {fd : FuncData} {ps ks : List Str} {F : Fn} {x : Str} {p pos : Pos} {e : Expr} {es : List Expr} {kws : List Keyword} {ia ik : Exs} {z : Bool} {dv : List Value} {dvs : List V} {ix : List Nat} {dfl : List D}
theorem c_callk (B : Bd S k ca X R) (G : FnG X.prog X.w X.K X.mg X.base j f fd ps (spF X.K ca F ps.length)) (hj : j ≤ k) (hx : okGl S x = true) (hm : X.mg x = some (.ref f)) (hk : PySem.W.keepIn X.K (.ref f) = true) (hb : KB X.K fd ps ia.len ks dv ix)
    (hd : Vals dvs dv) (hD : ∀ w, RpAll R.K R.ca w dvs dfl) (ha : PA X (e :: es) (tA R false ia)) (hkw : PK X kws (tA R false ik)) (hks : kwNames kws = some ks) (hl : ik.len = ks.length) (hs : (e :: es).all noStar = true) :
    PE X (.Call (.Name x p) (e :: es) kws pos) (tE R z (.app (pickF ix dfl F) (ia.app ik))) := PE.up <| by
  obtain ⟨g1, g2, g3⟩ := gl_of B hx
  exact e_call g1 hm hk (cal_fn (fnG_R B G hj) B.room B.grd hb hd hD B.tk) ha hkw hks hl hs g2
theorem c_callk0 (B : Bd S k ca X R) (G : FnG X.prog X.w X.K X.mg X.base j f fd ps (spF X.K ca F ps.length)) (hj : j ≤ k) (hx : okGl S x = true) (hm : X.mg x = some (.ref f)) (hk : PySem.W.keepIn X.K (.ref f) = true) (hb : KB X.K fd ps 0 ks dv ix)
    (hd : Vals dvs dv) (hD : ∀ w, RpAll R.K R.ca w dvs dfl) (hkw : PK X kws (tA R false ik)) (hks : kwNames kws = some ks) (hl : ik.len = ks.length) :
    PE X (.Call (.Name x p) [] kws pos) (tE R z (.app (pickF ix dfl F) ik)) := PE.up <| by
  obtain ⟨g1, g2, g3⟩ := gl_of B hx
  exact e_call0 g1 hm hk (cal_fn (fnG_R B G hj) B.room B.grd hb hd hD B.tk) hkw hks hl g2
end
end Pk

set_option Elab.async false
set_option linter.all false
set_option autoImplicit false
set_option maxRecDepth 100000
set_option maxHeartbeats 1000000
/-! Sound32: max and min of a list, list(range(..)). -/
namespace Pk
open PySem PySem.Spec PyProof.Rows L2
/-- max(xs), min(xs), a list of ints -/
def pMax1 : Fn
  | [.lst xs], M => match intsL xs with
    | some (i :: is) => .ok (.int (maxL (i :: is))) M
    | _ => .stuck
  | _, _ => .stuck
def pMin1 : Fn
  | [.lst xs], M => match intsL xs with
    | some (i :: is) => .ok (.int (minL (i :: is))) M
    | _ => .stuck
  | _, _ => .stuck
theorem maxL_is : ∀ (xs : List Int) (m : Int), m ∈ xs → (∀ y ∈ xs, y ≤ m) → maxL xs = m
  | [], m, h, _ => by cases h
  | [x], m, h, _ => (List.mem_singleton.mp h).symm
  | x :: y :: r, m, h, hm => by
    show max x (maxL (y :: r)) = m
    have h1 := hm x (by simp)
    rcases List.mem_cons.mp h with rfl | h
    · have : ∀ z ∈ (y :: r), z ≤ m := fun z hz => hm z (List.mem_cons_of_mem _ hz)
      have key : ∀ (l : List Int), l ≠ [] → (∀ z ∈ l, z ≤ m) → maxL l ≤ m := by
        intro l
        induction l with
        | nil => intro h; exact absurd rfl h
        | cons a l ih =>
          intro _ hl
          cases l with
          | nil => exact hl a (by simp)
          | cons b l =>
            show max a (maxL (b :: l)) ≤ m
            have q1 := hl a (by simp)
            have q2 := ih (by simp) fun z hz => hl z (List.mem_cons_of_mem _ hz)
            omega
      have := key (y :: r) (by simp) this
      omega
    · rw [maxL_is (y :: r) m h fun z hz => hm z (List.mem_cons_of_mem _ hz)]
      omega
theorem minL_is : ∀ (xs : List Int) (m : Int), m ∈ xs → (∀ y ∈ xs, m ≤ y) → minL xs = m
  | [], m, h, _ => by cases h
  | [x], m, h, _ => (List.mem_singleton.mp h).symm
  | x :: y :: r, m, h, hm => by
    show min x (minL (y :: r)) = m
    have h1 := hm x (by simp)
    rcases List.mem_cons.mp h with rfl | h
    · have : ∀ z ∈ (y :: r), m ≤ z := fun z hz => hm z (List.mem_cons_of_mem _ hz)
      have key : ∀ (l : List Int), l ≠ [] → (∀ z ∈ l, m ≤ z) → m ≤ minL l := by
        intro l
        induction l with
        | nil => intro h; exact absurd rfl h
        | cons a l ih =>
          intro _ hl
          cases l with
          | nil => exact hl a (by simp)
          | cons b l =>
            show m ≤ min a (minL (b :: l))
            have q1 := hl a (by simp)
            have q2 := ih (by simp) fun z hz => hl z (List.mem_cons_of_mem _ hz)
            omega
      have := key (y :: r) (by simp) this
      omega
    · rw [minL_is (y :: r) m h fun z hz => hm z (List.mem_cons_of_mem _ hz)]
      omega
section
variable {S : Sx} {k : Nat} {ca : String → Addr} {X : Cx} {R : Rd0}
theorem b_max1 (B : Bd S k ca X R) : CallP X R (.builtin "max") pMax1 := by
  intro pins s σ Γ M T w ds vs us Q I b rs r o
  by_cases hk : ∃ xs, ds = [.lst xs]
  · obtain ⟨xs, rfl⟩ := hk
    obtain ⟨v, rfl, rx⟩ := rs.one
    have o : OutR R σ Γ T w (match intsL xs with
      | some (i :: is) => Res.ok (D.int (maxL (i :: is))) M
      | _ => Res.stuck) _ := o
    cases hi : intsL xs with
    | none => rw [hi] at o; exact o.elim
    | some is =>
      rw [hi] at o
      cases is with
      | nil => exact (show False from o).elim
      | cons i is =>
        obtain ⟨a, ws, rfl, hH, ra⟩ := rp_seq rx
        have ew := rp_ints ra hi
        subst ew
        refine cr_max B.calm pins s σ w.H _ us Q I r ⟨a, i :: is, rfl, SqL.of hH, by simp, fun m hm hl => ?_⟩
        have := maxL_is (i :: is) m hm hl
        rw [← this]
        exact OutR.here (a := D.int (maxL (i :: is))) o b _ (.int _)
  · exfalso
    revert o
    unfold pMax1
    split
    · exact (hk ⟨_, rfl⟩).elim
    · exact id
theorem b_min1 (B : Bd S k ca X R) : CallP X R (.builtin "min") pMin1 := by
  intro pins s σ Γ M T w ds vs us Q I b rs r o
  by_cases hk : ∃ xs, ds = [.lst xs]
  · obtain ⟨xs, rfl⟩ := hk
    obtain ⟨v, rfl, rx⟩ := rs.one
    have o : OutR R σ Γ T w (match intsL xs with
      | some (i :: is) => Res.ok (D.int (minL (i :: is))) M
      | _ => Res.stuck) _ := o
    cases hi : intsL xs with
    | none => rw [hi] at o; exact o.elim
    | some is =>
      rw [hi] at o
      cases is with
      | nil => exact (show False from o).elim
      | cons i is =>
        obtain ⟨a, ws, rfl, hH, ra⟩ := rp_seq rx
        have ew := rp_ints ra hi
        subst ew
        refine cr_min B.calm pins s σ w.H _ us Q I r ⟨a, i :: is, rfl, SqL.of hH, by simp, fun m hm hl => ?_⟩
        have := minL_is (i :: is) m hm hl
        rw [← this]
        exact OutR.here (a := D.int (minL (i :: is))) o b _ (.int _)
  · exfalso
    revert o
    unfold pMin1
    split
    · exact (hk ⟨_, rfl⟩).elim
    · exact id

/-! ### list(range(..)) -/
theorem rg_rp {K : PySem.W.Frag} {c : String → Addr} {w : Wd} : ∀ (n : Nat) (a b : Int), (b - a).toNat = n → RpAll K c w (rgV a b) (rangeL a n)
  | 0, a, b, h => by
    unfold rgV
    rw [h]
    exact .nil
  | n + 1, a, b, h => by
    have e : rgV a b = V.int a :: rgV (a + 1) b := by
      unfold rgV
      have h1 : (b - (a + 1)).toNat = n := by omega
      rw [h, h1, List.range_succ_eq_map, List.map_cons, List.map_map]
      refine congr (congrArg _ (by simp)) (List.map_congr_left fun i _ => ?_)
      show V.int _ = V.int _
      congr 1
      push_cast
      omega
    rw [e]
    exact .cons (.int _) (rg_rp n (a + 1) b (by omega))
variable {a : Expr} {ia : Ex} {p p2 pos pos2 : Pos}
theorem e_listRg1 (B : Bd S k ca X R) (hl : okGl S "list" = true) (ml : X.mg "list" = none) (hr : okGl S "range" = true) (mr : X.mg "range" = none) (ha : PE X a (tE R true ia)) (hs : noStar a = true) :
    PE X (.Call (.Name "list" p) [.Call (.Name "range" p2) [a] [] pos2] [] pos) (tE R false (.app pRange (.cons ia .nil))) :=
  PEmono (pe_listRg B.calm (gl_of B hl).1 ml (prg_1 (gl_of B hr).1 mr ha (star_cons hs)) rfl) fun σ H Q ⟨w, Γ, M, T, hw, sr, o⟩ => by
    subst hw
    refine ⟨w, Γ, M, T, rfl, sr, (a1e o).imp fun x M1 w1 e1 b1 o1 v r => ?_⟩
    obtain ⟨j, rfl⟩ : ∃ j, x = .int j := by
      cases x with
      | int j => exact ⟨j, rfl⟩
      | _ => exact (show False from o1).elim
    cases r
    have o1 : OutR R σ Γ T w1 (if j.natAbs ≤ lim then Res.ok (D.lst (rangeL 0 j.toNat)) M1 else Res.stuck) _ := o1
    by_cases c : j.natAbs ≤ lim
    · rw [if_pos c] at o1
      unfold lim at c
      refine ⟨j, rfl, ⟨by omega, by omega, by omega, by omega, by omega⟩, fun q hq => ?_⟩
      exact OutR.new (d := D.lst (rangeL 0 j.toNat)) o1 b1 hq _ (new_lst b1 hq (rg_rp _ 0 j (by omega)))
    · rw [if_neg c] at o1
      exact o1.elim
theorem f_listRg1 (B : Bd S k ca X R) (hl : okGl S "list" = true) (ml : X.mg "list" = none) (hr : okGl S "range" = true) (mr : X.mg "range" = none) (ha : PE X a (tE R true ia)) (hs : noStar a = true) :
    PE X (.Call (.Name "list" p) [.Call (.Name "range" p2) [a] [] pos2] [] pos) (tF R (.app pRange (.cons ia .nil))) :=
  PEmono (pe_listRg B.calm (gl_of B hl).1 ml (prg_1 (gl_of B hr).1 mr ha (star_cons hs)) rfl) fun σ H Q ⟨w, Γ, M, T, hw, sr, o⟩ => by
    subst hw
    refine ⟨w, Γ, M, T, rfl, sr, (a1e o).imp fun x M1 w1 e1 b1 o1 v r => ?_⟩
    obtain ⟨j, rfl⟩ : ∃ j, x = .int j := by
      cases x with
      | int j => exact ⟨j, rfl⟩
      | _ => exact (show False from o1).elim
    cases r
    have o1 : OutR R σ Γ T w1 (if j.natAbs ≤ lim then Res.ok (D.lst (rangeL 0 j.toNat)) M1 else Res.stuck) _ := o1
    by_cases c : j.natAbs ≤ lim
    · rw [if_pos c] at o1
      unfold lim at c
      refine ⟨j, rfl, ⟨by omega, by omega, by omega, by omega, by omega⟩, fun q hq => ?_⟩
      have ex := Ext.own (o := .lst (rgV 0 j)) hq
      have fin := o1 (w1.own q (.lst (rgV 0 j))) ex (b1.push hq).pop
      exact fin q (e1.nn hq) (b1.push hq) ⟨_, upd_same, (rg_rp _ 0 j (by omega)).ext ex⟩
    · rw [if_neg c] at o1
      exact o1.elim
end
end Pk

set_option Elab.async false
set_option linter.all false
set_option autoImplicit false
set_option maxRecDepth 100000
set_option maxHeartbeats 1000000
/-! Sound33: items of owned lists stored; new lists from list(x). -/
namespace Pk
open PySem PySem.Spec PyProof.Rows L2
section
variable {S : Sx} {k : Nat} {ca : String → Addr} {X : Cx} {R : Rd0} {x : Str} {i : Nat} {e : Expr} {ii ia : Ex} {pos xp p : Pos}
/-- x[e] = v, x a name that owns its list -/
theorem ga_own (B : Bd S k ca X R) (hx : okVar S i x true = true) (hi : PE X e (tE R true ii))
    (ha : ∀ v, assign (.Subscript (.Name x xp) e pos) X.env v = (do
      let ov ← holding [v] (eval (.Name x xp) X.env)
      let iv ← holding [v, ov] (eval e X.env)
      standAt pos
      holding [v, ov, iv] (setItem ov iv v)
      release [v, ov, iv] [])) : PG X (.Subscript (.Name x xp) e pos) (gA R (.so i ii)) := by
  have hv : PE X (.Name x xp) (tVar i) := by
    unfold okVar at hx
    simp only [Bool.and_eq_true, Bool.not_eq_true', beq_iff_eq] at hx
    obtain ⟨⟨⟨⟨h1, h2⟩, h3⟩, h4⟩, h5⟩ := hx
    exact pe_var (i := i) (by rw [B.nN]; exact h1) (by rw [B.nsc]; exact vis_of h2) h4 h5
  refine PGmono (pg_sub hv hi set_list ha) fun v σ H Q ⟨w, Γ, M, d, hw, b, r, o⟩ => ?_
  subst hw
  have o : OutA R w [] (match slotAt Γ i with
    | .own (.lst xs) => Pk.vS (ev ii Γ M) Γ fun k M => match ownSet (.lst xs) k d with
      | some y => .next (setO Γ i y) M
      | none => .stuck
    | _ => .stuck) Q := o
  obtain ⟨xs, hsl⟩ : ∃ xs, slotAt Γ i = .own (.lst xs) := by
    cases q : slotAt Γ i with
    | own dd =>
      cases dd with
      | lst xs => exact ⟨xs, rfl⟩
      | _ => rw [q] at o; exact o.elim
    | _ => rw [q] at o; exact o.elim
  rw [hsl] at o
  have hΓ : Γ[i]? = some (.own (.lst xs)) := by
    unfold slotAt at hsl
    rw [List.getD_eq_getElem?_getD] at hsl
    cases q : Γ[i]? with
    | none => rw [q] at hsl; cases hsl
    | some s => rw [q] at hsl; exact congrArg some hsl
  obtain ⟨p, hp, hz, h0, nk, nT, vs, hl, ra⟩ := b.own i _ hΓ
  refine ⟨.ref p, hp, w, Γ, M, [], rfl, b, (OutA.vS b o).imp fun kk M2 w2 e2 b2 o2 vk qk => ?_⟩
  obtain ⟨n, rfl⟩ : ∃ n, kk = .int n := by
    cases kk with
    | int n => exact ⟨n, rfl⟩
    | _ => exact (show False from o2).elim
  cases qk
  have o2 : OutA R w2 [] (match (match Pk.ixN xs.length n with
      | some j => some (D.lst (xs.set j d))
      | none => none) with
    | some y => .next (setO Γ i y) M2
    | none => .stuck) Q := o2
  cases hx : Pk.ixN xs.length n with
  | none => rw [hx] at o2; exact (show False from o2).elim
  | some j =>
    rw [hx] at o2
    have o2 : ∀ σ' w', Pres w2 w' → Bears R w' σ' (Pk.setO Γ i (.lst (xs.set j d))) M2 [] → Q σ' w'.H := o2
    have hl1 : w2.H p = some (.lst vs) := e2.keep p _ hl nk
    have hz1 : w2.Z p := e2.z2 p hz
    have hf : ∀ o u, w2.H p ≠ some (.frz o u) := fun o u => by rw [hl1]; simp
    have rd : Rp R.K R.ca w2 false v d := r.ext e2
    refine ⟨p, vs, n, j, rfl, rfl, hl1, by rw [ra.length]; exact hx, ?_⟩
    exact o2 σ (w2.at p (.lst (vs.set j v))) (Pres.wrZ hz1 hf) (b2.writeOwn hΓ hp hf ⟨_, upd_same, (RpAll.set rd j (ra.ext e2)).wr hz1 hf⟩)
/-- list(x): a new list that a name may own -/
theorem f_list (B : Bd S k ca X R) (hl : okGl S "list" = true) (ml : X.mg "list" = none) (he : PE X e (tE R true ia)) (hs : noStar e = true) :
    PE X (.Call (.Name "list" p) [e] [] pos) (tF R (.app pList (.cons ia .nil))) := by
  refine ⟨fun pins s σ H Q I h => ?_⟩
  obtain ⟨g1, g2, g3⟩ := gl_of B hl
  obtain ⟨w, Γ, M, T, hw, sr, o⟩ := h
  subst hw
  have h1 : (tE R true ia) σ w.H (fun v H1 => ∃ a vs, v = V.ref a ∧ (SqL X.K H1 a vs ∨ SqT X.K H1 a vs) ∧ ∀ q, H1 q = none → Q (.ref q) (upd H1 q (.lst vs))) := by
    refine ⟨w, Γ, M, T, rfl, sr, (a1e o).imp fun x M1 w1 e1 b1 o1 v r => ?_⟩
    have key : ∀ (xs : List D) (vs : List V), OutR R σ Γ T w1 (.ok (D.lst xs) M1) (fun d M' w' => ∀ p, w.H p = none → Bears R w' σ Γ M' (p :: T) → OwnC R.K R.ca w' p d → Q (.ref p) w'.H) → RpAll R.K R.ca w1 vs xs → ∀ q, w1.H q = none → Q (.ref q) (upd w1.H q (.lst vs)) := fun xs vs o1 ra q hq => by
      have ex := Ext.own (o := .lst vs) hq
      have fin := o1 (w1.own q (.lst vs)) ex (b1.push hq).pop
      exact fin q (e1.nn hq) (b1.push hq) ⟨_, upd_same, ra.ext ex⟩
    cases x with
    | lst xs =>
      obtain ⟨a, vs, rfl, hH, ra⟩ := rp_seq r
      exact ⟨a, vs, rfl, .inl (.of hH), key xs vs o1 ra⟩
    | tup xs =>
      obtain ⟨a, vs, rfl, hH, ra⟩ := rp_tup r
      exact ⟨a, vs, rfl, .inr (B.RK ▸ hH), key xs vs o1 ra⟩
    | _ => exact (show False from o1).elim
  refine Call_ (ld_blt I g1 ml boot_list (PyProof.Rows.callWith_type1 (one_arg he I h1 (fun v s2 y H2 I2 r2 q => ?_) (star_cons hs)) (star_cons hs)))
  obtain ⟨a, vs, rfl, hq, q⟩ := q
  exact call_list_of pins s2 σ H2 _ [v] Q I2 (.cons r2 .nil) ⟨a, vs, rfl, hq, q⟩
end
end Pk

set_option Elab.async false
set_option linter.all false
set_option autoImplicit false
set_option maxRecDepth 100000
set_option maxHeartbeats 1000000
/-! Sound34: several names at once, some of them cells. -/
namespace Pk
open PySem PySem.Spec PyProof.Rows L2
section
variable {S : Sx} {k : Nat} {ca : String → Addr} {X : Cx} {R : Rd0} {es as : List Expr} {irs : Exs} {fl : List Bool} {is : List Nat} {i : Nat} {x : Str} {p pt pos pt2 : Pos} {kt k2 : Nat}
def gNm (is : List Nat) : TGs := fun vs σ H Q => vs.length = is.length ∧ Q (setAll σ is vs) H
theorem gnm_nil : PGs X [] (gNm []) := PGsmono pgs_nil fun vs σ H Q h => by
  obtain ⟨hl, q⟩ := h
  have : vs = [] := List.length_eq_zero_iff.mp hl
  subst this
  exact ⟨rfl, q⟩
theorem gnm_cons (B : Bd S k ca X R) (h : okTg S i x = true) (hr : PGs X es (gNm is)) (hs : (assignEach (.Name x p :: es) X.env).map (·.2) = assign (.Name x p) X.env :: (assignEach es X.env).map (·.2)) : PGs X (.Name x p :: es) (gNm (i :: is)) := by
  obtain ⟨h1, h2, h3⟩ := tg_of B h
  refine PGsmono (pgs_cons (pg_name (B.nN ▸ B.nd) h1 h2 h3) hr hs) fun vs σ H Q h => ?_
  obtain ⟨hl, q⟩ := h
  cases vs with
  | nil => cases hl
  | cons v vs => exact ⟨v, vs, rfl, by simpa using hl, q⟩
theorem s_parC (B : Bd S k ca X R) (hst : S.st = true) (hsw : swF S.sc es as = some none) (hm : muOk S.mu fl is = true) (hg : PGs X es (gNm is)) (ha : PA X as (tMx R fl irs)) (hlen : fl.length = is.length) (hf : fl.length ≤ 1000)
    (hn : (assignEach es X.env).length = is.length) (hq : (assignEach es X.env).findIdx? (·.1) = none) (hs : swapsWithSole [.Tuple es kt pt] (.Tuple as k2 pt2) pos.line X.env = pure false) (h1 : (assignEach [.Tuple es kt pt] X.env).map (·.2) = [assign (.Tuple es kt pt) X.env]) :
    PS X (.Assign [.Tuple es kt pt] (.Tuple as k2 pt2) pos) (tM R (.par (atsOf fl is) irs)) :=
  PSmono (ps_asg (pe_tup ha) (pg_tup B.calm hg hn hq) hs (sw_of B hst hsw) h1) fun D σ H ⟨w, Γ, M, hw, b, o⟩ => by
    subst hw
    have o : OutS R w (Pk.vS (evs irs Γ M) Γ fun ds M => asgAts (atsOf fl is) ds Γ M) D := o
    refine ⟨w, Γ, M, [], rfl, b, (OutS.vS b o).imp fun ds M1 w1 e1 b1 o1 vs ps hmx _ hb => ?_⟩
    have hl := hmx.len.1
    refine ⟨by rw [hl, sizeLine_eq]; omega, fun p hp => ?_⟩
    obtain ⟨Γ', h1, h2⟩ := store_mix (hmx.at (o := .tup vs) hp) (by rw [B.Rmu]; exact hm) (hb.at (o := .tup vs) hp)
    rw [h1] at o1
    have o1 : ∀ σ' w', Pres w1 w' → Bears R w' σ' Γ' M1 [] → D.nx σ' w'.H := o1
    exact ⟨p, vs, rfl, .of upd_same, by rw [hl, hlen], by rw [hl, hlen], o1 _ (w1.at p (.tup vs)) ((Ext.at hp).pres hb) h2⟩
end
end Pk

set_option Elab.async false
set_option linter.all false
set_option autoImplicit false
set_option maxRecDepth 100000
set_option maxHeartbeats 1000000
/-! Sound35: defs that are called while an exception is handled; isinstance of the exception that is handled. -/
namespace Pk
open PySem PySem.Spec PyProof.Rows L2

/-- what a def promises that is called while p is handled; it raises nothing -/
structure FnP (P : Program) (w : World) (K : PySem.W.Frag) (mg : Str → Option Value) (base : Heap) (k : Nat) (f : Addr) (fd : FuncData) (ps : List Str) (sp : Addr × Obj → List V → Hp → VK → Prop) : Prop where
  len : ∀ p vs H Q, sp p vs H Q → vs.length = ps.length
  run : ∀ (A : Around) (outer : List PySem.Env) (s : Shared) (H : Hp) (args : Args) (us : List Value) (vs : List V) (Q : VK) (p : Addr × Obj), L2H.RoomH k A → L2H.PinOk outer H s p → Env0 P w K mg base A outer s H →
    BindsTo s fd args (ps.zip us) → Vals vs us → sp p vs H Q → codeAny (model P w) A (.call (.ref f) args) (CR (L2.CX P w) outer P w H s Q (fun _ _ _ => False)) s
/-- the context of its body -/
abbrev cxP (P : Program) (w : World) (K : PySem.W.Frag) (mg : Str → Option Value) (base : Heap) (N : List Str) (qual : Str) (scope : Scope) (f : Addr) (cd : Value) (A : Around) (outer : List PySem.Env) (s : Shared) (H : Hp) (p : Addr × Obj) : Cx :=
  L2H.cxH (L2.CX P w) P w K mg base N qual scope f cd A outer s H (fun _ _ _ => False) p
theorem fnP_of {P : Program} {w : World} {K : PySem.W.Frag} {mg : Str → Option Value} {base : Heap} {k : Nat} {f : Addr} {fd : FuncData} {x qual : Str} {st : Stmt} {N ps : List Str} {sp : Addr × Obj → List V → Hp → VK → Prop}
    (Fi : L2.Fun K x qual st f fd) (S : FnScope N ps (defScope st)) (len : ∀ p vs H Q, sp p vs H Q → vs.length = ps.length)
    (hbody : ∀ (cd : Value) (A : Around) (outer : List PySem.Env) (s : Shared) (H : Hp) (vs : List V) (Q : VK) (p : Addr × Obj), L2H.RoomH k (A.deeper (envOfC qual (defScope st) s.heap.objs.size f cd)) → sp p vs H Q →
      ∃ t, PSs (cxP P w K mg base N qual (defScope st) f cd A outer s H p) (defBody st) t ∧ t { nx := fun _ H' => Q .non H', rt := Q } (L2.start N vs) H) : FnP P w K mg base (k + 1) f fd ps sp := by
  obtain ⟨oc, od, kV, doc, pm, an, cdv, ct, osl, rfl, lk, hcd⟩ := Fi.ex
  refine ⟨len, fun A outer s H args us vs Q p room pin e0 bnd rel hsp => ?_⟩
  have ln := len _ _ _ _ hsp
  have inK : K.In s.heap := e0.mod.kin.keeps fun b o e => (e0.bs b o e).1
  refine codeAny_call_function room.depth (inK _ _ lk) rfl S.co S.gen rfl (PySem.W.codeRec_of inK hcd) (bnd _ _ _ _ ?_)
  refine wpAny_newFunctionEnv_cells S.kind ?_ fun env he s1 ic => ?_
  · rintro ⟨n, v⟩ hy
    rcases S.par n (List.of_mem_zip hy).1 with q | q
    · exact .inl q
    · exact .inr ⟨q, PySem.W.cellsFrom_some _ _ _ (.inl q)⟩
  · subst he
    have lim0 : s.heap.NoLimit := e0.mod.nolimit.keeps fun b o e => (e0.bs b o e).1
    refine ⟨lim0.keeps ic.toInCall.keep, codeAny_func ?_⟩
    obtain ⟨t, ht, hq⟩ := hbody cdv A outer s H vs Q p (room.deeper _) hsp
    have I := L2H.inv_startH (CX := L2.CX P w) (E := fun _ _ _ => False) S pin e0 ln rel ic
    refine wpAny_mono (ht.run [] s1 (L2.start N vs) H _ I hq) (fun fl s' hs => ?_) fun e s' hs => hs
    cases fl with
    | ret u => obtain ⟨v, σ', H', J, rv, q⟩ := hs; exact ⟨v, H', J.os, J.bare, J.base, J.hok, rv, q⟩
    | next => obtain ⟨σ', H', J, q⟩ := hs; exact ⟨.non, H', J.os, J.bare, J.base, J.hok, rfl, q⟩
    | brk => obtain ⟨_, _, _, q⟩ := hs; exact False.elim q
    | cont => obtain ⟨_, _, _, q⟩ := hs; exact False.elim q
section
variable {X : Cx} {k : Nat} {f : Addr} {fd : FuncData} {ps : List Str} {sp : Addr × Obj → List V → Hp → VK → Prop} {x : Str} {q pos : Pos} {e : Expr} {es : List Expr} {t : TA}
/-- f(e, ..) where p is handled -/
theorem pe_callP {p : Addr × Obj} (F : FnP X.prog X.w X.K X.mg X.base k f fd ps sp) (hr : L2H.RoomH k X.A) (hp : p ∈ X.pn) (hg : Gl X x) (hm : X.mg x = some (.ref f)) (hk : PySem.W.keepIn X.K (.ref f) = true) (hb : Binds X.K fd ps [])
    (ha : PA X (e :: es) t) (hdb : (x == ("__debug__" : Str)) = false) (he : starEach (e :: es) X.env = (false, eval e X.env) :: starEach es X.env) (hpl : (backTo pos (starEach es X.env)).any (·.1) = false) :
    PE X (.Call (.Name x q) (e :: es) [] pos) (fun σ H Q => t σ H fun vs H1 => sp p vs H1 Q) := by
  refine ⟨fun pins s σ H Q I h => ?_⟩
  refine wpAny_Call_Name_kw (ld_glob I hg hm ?_ hdb)
  refine PySem.W.callWith_K (h₀ := X.base) I.ok.mod.kin hk (thn (ha.run pos pins s σ H _ I h) fun us s1 hh => ?_) he hpl
  obtain ⟨vs, H1, I1, rel, hs⟩ := hh
  refine ⟨I1.kIn, ?_⟩
  have hl : us.length = ps.length := rel.length.symm.trans (F.len _ _ _ _ hs)
  have bnd := hb s1 us I1.kIn (by rw [List.append_nil]; exact hl)
  rw [List.append_nil] at bnd
  obtain ⟨p1, p2, p3, p4, p5⟩ := I1.pin p (List.mem_append_left _ hp)
  have pin : L2H.PinOk X.stack H1 s1 p := ⟨p1, p2, fun hm => (List.mem_cons.mp (I1.stkSub p.1 hm)).elim p3 p4, p5⟩
  refine wpAny_call (codeAny_mono (F.run X.A X.stack s1 H1 ⟨us, []⟩ us vs Q p hr pin I1.env0 bnd rel hs) fun r s' hq => ?_)
  cases r with
  | error e =>
    obtain ⟨_, _, _, _, _, _, _, _, _, _, _, _, z⟩ := (show L2.CX X.prog X.w X.stack H1 s1 (fun _ _ _ => False) e s' from hq)
    exact z.elim
  | ok fl =>
    cases fl with
    | ret u => exact I1.after hq
    | next => exact False.elim hq
    | brk => exact False.elim hq
    | cont => exact False.elim hq
end
/-- what isinstance asks of an own error's class -/
structure ErrI (K : PySem.W.Frag) (C : Addr) : Prop where
  hcl : PySem.W.isClsIn K C = true
  hga : PySem.W.findIn K (.ref C) "__getattribute__" = some (some (.builtin "BaseException.__getattribute__"))
  hgt : PySem.W.findIn K (.ref C) "__getattr__" = some none
  hsub : PySem.W.subIn K (.ref C) (.type "BaseException") = some true
  ha : PySem.W.findIn K (.ref C) "__class__" = some (some (.builtin "object.__class__"))
  hn : PySem.W.specialIn K (.builtin "object.__class__") "__get__" = some (some (.builtin "getset_descriptor.__get__"))
  htk : PySem.W.takesIn K (.builtin "object.__class__") = some true
  hm : PySem.W.mroIn K C (.type "object") = some true
/-- the handled exception: where it stands, its class, its dict -/
structure HeldX (X : Cx) (a : Addr) (oe : Obj) (C dx : Addr) : Prop where
  pin : (a, oe) ∈ X.pn
  cls : oe.cls = .ref C
  dict : oe.dict = some dx
  fld : ∃ vs, oe.data = .fields vs
theorem HeldX.inst {X : Cx} {a : Addr} {oe : Obj} {C dx : Addr} (h : HeldX X a oe C dx) {pins : List (Addr × Obj)} {s : Shared} {σ : L2.St} {H : Hp} (I : Inv X pins σ H s) {fs : List (Str × V)} (hx : H dx = some (.xd fs)) :
    ∃ (od : Obj) (mA : Str → Option Value), PySem.W.InstAt s.heap a oe C (some od) ∧ (∀ f, RelO (fs.lookup f) (mA f)) ∧ ∀ name, PySem.W.lookIn name od = some (mA name) := by
  obtain ⟨ha, _⟩ := I.pin (a, oe) (List.mem_append_left _ h.pin)
  obtain ⟨vs, hd⟩ := h.fld
  obtain ⟨mA, hns, hr⟩ := (show ObjOk X.prog X.w H s.heap dx (.xd fs) from I.hok dx _ hx)
  obtain ⟨od, ho, hl⟩ := lookIn_ns hns
  exact ⟨od, mA, ⟨ha, h.cls, by unfold PySem.W.notCls; rw [hd] <;> rfl, by rw [h.dict]; exact ho⟩, hr, hl⟩
section
variable {X : Cx} {a : Addr} {oe : Obj} {C dx : Addr} {i : Nat} {en T : Str} {p p1 p2 pos : Pos} {b : Bool} {cv : Value} {c : V}
/-- isinstance(e, T), e the handled exception -/
def tIsX (i : Nat) (a dx : Addr) (b : Bool) : TE := fun σ H Q => σ[i]? = some (some (.ref a)) ∧ (∃ fs, H dx = some (.xd fs)) ∧ Q (.bl b) H
theorem pe_isX (h : HeldX X a oe C dx) (E : ErrI X.K C) (hN : X.N[i]? = some en) (hv : Vis X.env.scope en) (hd1 : (en == ("__debug__" : Str)) = false) (hd2 : (en == ("__classdict__" : Str)) = false)
    (hg : Gl X "isinstance") (hm : X.mg "isinstance" = none) (hT : PE X (.Name T p2) (tC c)) (hc : ∀ u, RelV c u → u = cv) (hk : PySem.W.kitOne X.K (.ref C) cv = some b) :
    PE X (.Call (.Name "isinstance" p) [.Name en p1, .Name T p2] [] pos) (tIsX i a dx b) := by
  have hi : bootBuiltins "isinstance" = some (.builtin "isinstance") := rfl
  refine PEmono (pe_callB (r := fun vs H Q => vs = [.ref a, c] ∧ (∃ fs, H dx = some (.xd fs)) ∧ Q (.bl b) H) (fun pins s σ H vs us Q I r hh => ?_) hg hm hi (pa_cons (pe_var hN hv hd1 hd2) (pa_cons hT pa_nil (star_cons rfl)) (star_cons rfl)) (by decide) (by decide) (star_cons rfl) (by rw [star_cons (es := []) (e := .Name T p2) rfl]; rfl))
    fun σ H Q ⟨h1, h2, h3⟩ => ⟨_, h1, rfl, h2, h3⟩
  obtain ⟨rfl, ⟨fs, hx⟩, q⟩ := hh
  obtain ⟨u1, u2, rfl, r1, r2⟩ := vals2 r
  obtain rfl : u1 = Value.ref a := r1
  obtain rfl := hc _ r2
  obtain ⟨od, mA, J, _, _⟩ := h.inst I hx
  exact PySem.W.kia_one (PySem.W.kitx_exc E.hcl E.hga E.hgt E.hsub E.ha E.hn E.htk E.hm) I.kIn J hk (fun z => nomatch z) fun tk => ⟨.bl b, H, I.tok tk, rfl, q⟩
/-- e.f, e the handled exception -/
def tAtX (i : Nat) (a dx : Addr) (f : Str) : TE := fun σ H Q => σ[i]? = some (some (.ref a)) ∧ ∃ fs v, H dx = some (.xd fs) ∧ fs.lookup f = some v ∧ Q v H
theorem pe_atX {f : Str} (h : HeldX X a oe C dx) (E : ErrI X.K C) (hdC : PySem.W.hasDictIn X.K C = true) (no : PySem.W.findIn X.K (.ref C) f = some none) (hN : X.N[i]? = some en) (hv : Vis X.env.scope en) (hd1 : (en == ("__debug__" : Str)) = false) (hd2 : (en == ("__classdict__" : Str)) = false)
    (hb : attributeBase (.Name en p1) f X.env (eval (.Name en p1) X.env) = eval (.Name en p1) X.env) : PE X (.Attribute (.Name en p1) f pos) (tAtX i a dx f) := by
  refine ⟨fun pins s σ H Q I hh => ?_⟩
  obtain ⟨h1, fs, v, hx, hl, q⟩ := hh
  refine attr_of hb (thn ((pe_var hN hv hd1 hd2).run pins s σ H (fun y H1 => y = .ref a ∧ H1 = H) I ⟨_, h1, rfl, rfl⟩) fun u s1 h2 => ?_)
  obtain ⟨y, H1, I1, ry, rfl, rfl⟩ := h2
  obtain rfl : u = Value.ref a := ry
  obtain ⟨od, mA, J, hr, lk⟩ := h.inst I1 hx
  obtain ⟨u, hu, ru⟩ := RelO.some_of (v := v) (o := mA f) (by rw [← hl]; exact hr f)
  exact HandSPX.exc_get I1.kIn J E.hga E.hgt E.hsub (PySem.W.findObj_own hdC no rfl (by rw [lk, hu])) (handed_of ru) ⟨v, H1, I1.tok _, ru, q⟩
end
/-! ### the base classes that an error has, as laws ask them -/
/-- where own stands: WrongValue, WrongName, NoAnswer; b1, b2, b3: which of them the class of the handled exception is -/
def spBas (K : PySem.W.Frag) (C1 C2 C3 : Addr) : Addr × Obj → List V → Hp → VK → Prop := fun p vs H Q => vs = [.ref p.1] ∧ ∃ (C dx : Addr) (b1 b2 b3 : Bool), p.2.cls = .ref C ∧ p.2.dict = some dx ∧ (∃ vs, p.2.data = .fields vs) ∧ (∃ fs, H dx = some (.xd fs)) ∧ ErrI K C ∧
  (PySem.W.kitOne K (.ref C) (.ref C1) = some b1 ∧ PySem.W.kitOne K (.ref C) (.ref C2) = some b2 ∧ PySem.W.kitOne K (.ref C) (.ref C3) = some b3) ∧
  (PySem.W.kitOne K (.ref C) (.type "ValueError") = some b1 ∧ PySem.W.kitOne K (.ref C) (.type "LookupError") = some b2 ∧ PySem.W.kitOne K (.ref C) (.type "ArithmeticError") = some b3) ∧
  ∀ q1 q2, H q1 = none → upd H q1 (.lst [.bl b1, .bl b2, .bl b3]) q2 = none → Q (.ref q1) (upd (upd H q1 (.lst [.bl b1, .bl b2, .bl b3])) q2 (.lst [.bl b1, .bl b2, .bl b3]))
def asgS (x : Str) (e : Expr) (p q : Pos) : Stmt := .Assign [.Name x p] e q
def isE (x T : Str) (p p1 p2 q : Pos) : Expr := .Call (.Name "isinstance" p) [.Name x p1, .Name T p2] [] q
end Pk

set_option Elab.async false
set_option linter.all false
set_option autoImplicit false
set_option maxRecDepth 100000
set_option maxHeartbeats 1000000
/-! Sound36: the def of the laws that tells of which base classes an error is. -/
namespace Pk
open PySem PySem.Spec PyProof.Rows L2
section
variable {X : Cx} {a : Addr} {oe : Obj} {C dx : Addr} {i j : Nat}
/-- [isinstance(e, A), isinstance(e, B), isinstance(e, C)] stored -/
theorem ps_is3 {x : Str} {e1 e2 e3 : Expr} {b1 b2 b3 : Bool} {lp xp sp : Pos} (hN : X.N.Nodup) (hj : X.N[j]? = some x) (hx : Loc X.env.scope x) (hf : X.fn x = true) (hij : i ≠ j)
    (h1 : PE X e1 (tIsX i a dx b1)) (h2 : PE X e2 (tIsX i a dx b2)) (h3 : PE X e3 (tIsX i a dx b3)) (n1 : noStar e1 = true) (n2 : noStar e2 = true) (n3 : noStar e3 = true) (hs : swapsWith (.List [e1, e2, e3] lp) (some (.Name x xp)) sp.line X.env = pure false) :
    PS X (.Assign [.Name x xp] (.List [e1, e2, e3] lp) sp) (fun D σ H => σ[i]? = some (some (.ref a)) ∧ (∃ fs, H dx = some (.xd fs)) ∧ ∀ p, H p = none → D.nx (σ.set j (some (.ref p))) (upd H p (.lst [.bl b1, .bl b2, .bl b3]))) :=
  PSmono (ps_set hN hj hx (pe_lst (pa_cons h1 (pa_cons h2 (pa_cons h3 pa_nil (star_cons n3)) (star_cons n2)) (star_cons n1))) hs (.inl hf)) fun D σ H ⟨q1, q2, q3⟩ =>
    ⟨q1, q2, q1, q2, q1, q2, by rw [sizeLine_eq]; show 3 ≤ 16777216; omega, fun p hp => q3 p hp⟩
end
theorem bases_ok {P : Program} {w : World} {K : PySem.W.Frag} {mg : Str → Option Value} {base : Heap} {qual : Str} {st : Stmt} {f : Addr} {fd : FuncData} {C1 C2 C3 : Addr}
    {l1 x1 s1 a1 a2 a3 a4 b1 b2 b3 b4 c1 c2 c3 c4 l2 x2 s2 d1 d2 d3 d4 e1 e2 e3 e4 f1 f2 f3 f4 r1 r2 r3 r4 r5 r6 r7 : Pos}
    (Fi : L2.Fun K "_law_bases" qual st f fd) (S : FnScope ["e", "own", "plain"] ["e"] (defScope st)) (lo : ∀ x ∈ (["e", "own", "plain"] : List Str), (defScope st).names.lookup x = some .local)
    (hb : defBody st = [.Assign [.Name "own" x1] (.List [isE "e" "WrongValue" a1 a2 a3 a4, isE "e" "WrongName" b1 b2 b3 b4, isE "e" "NoAnswer" c1 c2 c3 c4] l1) s1,
      .Assign [.Name "plain" x2] (.List [isE "e" "ValueError" d1 d2 d3 d4, isE "e" "LookupError" e1 e2 e3 e4, isE "e" "ArithmeticError" f1 f2 f3 f4] l2) s2,
      .Return (some (.IfExp (.Compare (.Name "own" r1) [.Eq] [.Name "plain" r2] r3) (.Name "own" r4) (.List [] r5) r6)) r7])
    (g : ∀ x ∈ (["isinstance", "WrongValue", "WrongName", "NoAnswer", "ValueError", "LookupError", "ArithmeticError"] : List Str), (defScope st).names.lookup x = some .globalImplicit)
    (m1 : mg "WrongValue" = some (.ref C1)) (m2 : mg "WrongName" = some (.ref C2)) (m3 : mg "NoAnswer" = some (.ref C3)) (n0 : mg "isinstance" = none) (n1 : mg "ValueError" = none) (n2 : mg "LookupError" = none) (n3 : mg "ArithmeticError" = none) :
    FnP P w K mg base 1 f fd ["e"] (spBas K C1 C2 C3) := by
  refine fnP_of Fi S (fun p vs H Q h => by rw [h.1]; rfl) fun cd A outer s H vs Q p hr h => ?_
  obtain ⟨rfl, C, dx, u1, u2, u3, hc, hd, hf, hx, E, ⟨k1, k2, k3⟩, ⟨k4, k5, k6⟩, q⟩ := h
  obtain ⟨a, oe⟩ := p
  obtain ⟨X, hX⟩ : ∃ X, X = cxP P w K mg base ["e", "own", "plain"] qual (defScope st) f cd A outer s H (a, oe) := ⟨_, rfl⟩
  rw [← hX]
  have eN : X.N = (["e", "own", "plain"] : List Str) := by rw [hX]; rfl
  have eS : X.env.scope = defScope st := by rw [hX]; rfl
  have eK : X.K = K := by rw [hX]; rfl
  have em : X.mg = mg := by rw [hX]; rfl
  have ef : ∀ x, X.fn x = true := by rw [hX]; exact fun _ => rfl
  have hh : HeldX X a oe C dx := ⟨by rw [hX]; exact List.mem_singleton.mpr rfl, hc, hd, hf⟩
  have eA : X.A = A.deeper (envOfC qual (defScope st) s.heap.objs.size f cd) := by rw [hX]; rfl
  have hu : X.A.units + 64 < cLine := by rw [eA]; have := hr.un; omega
  clear hX
  subst eK em
  have nd : X.N.Nodup := by rw [eN]; decide
  have gl : ∀ x ∈ (["isinstance", "WrongValue", "WrongName", "NoAnswer", "ValueError", "LookupError", "ArithmeticError"] : List Str), Gl X x := fun x hx => by
    unfold Gl Env.kindOf
    rw [eS]; exact g x hx
  have loc : ∀ x ∈ (["e", "own", "plain"] : List Str), Loc X.env.scope x := fun x hx => by rw [eS]; exact .inl (lo x hx)
  have v0 : Vis X.env.scope "e" := by rw [eS]; exact .inl (lo _ (by simp))
  have v1 : Vis X.env.scope "own" := by rw [eS]; exact .inl (lo _ (by simp))
  have v2 : Vis X.env.scope "plain" := by rw [eS]; exact .inl (lo _ (by simp))
  have hN0 : X.N[0]? = some ("e" : Str) := by rw [eN]; rfl
  have hN1 : X.N[1]? = some ("own" : Str) := by rw [eN]; rfl
  have hN2 : X.N[2]? = some ("plain" : Str) := by rw [eN]; rfl
  have own : ∀ {T : Str} {Cj : Addr} {p p1 p2 q : Pos} {b : Bool}, T ∈ (["isinstance", "WrongValue", "WrongName", "NoAnswer", "ValueError", "LookupError", "ArithmeticError"] : List Str) → X.mg T = some (.ref Cj) → (T == ("__debug__" : Str)) = false → PySem.W.kitOne X.K (.ref C) (.ref Cj) = some b → PE X (isE "e" T p p1 p2 q) (tIsX 0 a dx b) :=
    fun {T Cj p p1 p2 q b} hT hm hd hk => pe_isX hh E hN0 v0 (by decide) (by decide) (gl _ (by simp)) n0 (pe_glob (v := .ref Cj) (gl T hT) hm rfl hd) (fun u r => r) hk
  have blt : ∀ {T : Str} {t : String} {p p1 p2 q : Pos} {b : Bool}, T ∈ (["isinstance", "WrongValue", "WrongName", "NoAnswer", "ValueError", "LookupError", "ArithmeticError"] : List Str) → X.mg T = none → bootBuiltins T = some (.type t) → T ≠ "__name__" → (T == ("__debug__" : Str)) = false → PySem.W.kitOne X.K (.ref C) (.type t) = some b → PE X (isE "e" T p p1 p2 q) (tIsX 0 a dx b) :=
    fun {T t p p1 p2 q b} hT hm hv hn hd hk => pe_isX hh E hN0 v0 (by decide) (by decide) (gl _ (by simp)) n0 (pe_bltn (v := .ty t) (gl T hT) hm hv rfl hn hd) (fun u r => r) hk
  rw [hb]
  refine ⟨_, pss_cons (ps_is3 (i := 0) (a := a) (dx := dx) (b1 := u1) (b2 := u2) (b3 := u3) nd hN1 (loc _ (by simp)) (ef _) (by decide) (own (by simp) m1 (by decide) k1) (own (by simp) m2 (by decide) k2) (own (by simp) m3 (by decide) k3) rfl rfl rfl rfl)
    (pss_cons (ps_is3 (i := 0) (a := a) (dx := dx) (b1 := u1) (b2 := u2) (b3 := u3) nd hN2 (loc _ (by simp)) (ef _) (by decide) (blt (by simp) n1 rfl (by decide) (by decide) k4) (blt (by simp) n2 rfl (by decide) (by decide) k5) (blt (by simp) n3 rfl (by decide) (by decide) k6) rfl rfl rfl rfl)
      (pss_one (ps_ret (pe_ifExp (pt_cmpR (op_eqD hu) (pe_var hN1 v1) (pe_var hN2 v2) rfl) (pe_var hN1 v1) (pe_lst pa_nil))))), ?_⟩
  refine ⟨rfl, hx, fun q1 hq1 => ⟨rfl, ?_, fun q2 hq2 => ?_⟩⟩
  · obtain ⟨fs, hx⟩ := hx
    refine ⟨fs, (upd_ne fun e => ?_).trans hx⟩
    rw [e, hq1] at hx; cases hx
  · have n12 : q1 ≠ q2 := fun e => by rw [e, upd_same] at hq2; cases hq2
    have e1 : upd (upd H q1 (.lst [.bl u1, .bl u2, .bl u3])) q2 (.lst [.bl u1, .bl u2, .bl u3]) q1 = some (.lst [.bl u1, .bl u2, .bl u3]) := by rw [upd_ne n12, upd_same]
    have all : ∀ H : Hp, DpAll X.K H [.bl u1, .bl u2, .bl u3] [.bool u1, .bool u2, .bool u3] := fun H => .cons (.bl _) (.cons (.bl _) (.cons (.bl _) .nil))
    refine ⟨.ref q1, rfl, .ref q2, rfl, .list [.bool u1, .bool u2, .bool u3], .list [.bool u1, .bool u2, .bool u3], .lst (.of e1) (all _), .lst (.of upd_same) (all _), by cases u1 <;> cases u2 <;> cases u3 <;> rfl, by cases u1 <;> cases u2 <;> cases u3 <;> rfl, true, by cases u1 <;> cases u2 <;> cases u3 <;> rfl, ?_⟩
    show if true = true then _ else _
    rw [if_pos rfl]
    exact ⟨.ref q1, rfl, q q1 q2 hq1 hq2⟩
end Pk

set_option Elab.async false
set_option linter.all false
set_option autoImplicit false
set_option maxRecDepth 100000
set_option maxHeartbeats 1000000
/-! Sound37: try with clauses that name what they catch. -/
namespace Pk
open PySem PySem.Spec PyProof.Rows L2
/-- what a suite ends in once the clause's name is gone -/
def goneD (D : Ends) (i : Nat) : Ends := { nx := fun τ G => D.nx (τ.set i none) G, rt := D.rt, bk := fun τ G => D.bk (τ.set i none) G, ct := fun τ G => D.ct (τ.set i none) G }
abbrev HdT := Value × Nat × (Addr → Value → Option Addr → TS)
/-- the clauses one after the other; each has its class, its name's slot, its suite's reading -/
def wN (K : PySem.W.Frag) (Wo : WX) (D : Ends) : List HdT → WX
  | [] => Wo
  | (c, i, ts) :: l => fun cls dx τ G => ∃ t, PySem.W.exmOne K cls c = some t ∧ (t = true → ∀ a, G a = none → ts a cls dx (goneD D i) (τ.set i (some (.ref a))) G) ∧ (t = false → wN K Wo D l cls dx τ G)
inductive HdsN (X : Cx) : List ExceptHandler → List HdT → Prop
  | nil : HdsN X [] []
  | cons {x n : Str} {c : Value} {i : Nat} {ts : Addr → Value → Option Addr → TS} {s0 : Stmt} {ss : List Stmt} {p1 p2 : Pos} {hs : List ExceptHandler} {l : List HdT} (nm : Names X x c) (at_ : X.N[i]? = some n) (lo : X.env.kindOf n = some .local)
      (su : ∀ (a : Addr) (oe : Obj) (cls : Value) (dx : Option Addr) (pn : List (Addr × Obj)), Zc cls dx oe → (∃ vs, oe.data = .fields vs) → PSs (X.suite a ((a, oe) :: pn)) (s0 :: ss) (ts a cls dx)) (more : HdsN X hs l) :
      HdsN X (.ExceptHandler (some (.Name x p1)) (some n) (s0 :: ss) p2 :: hs) ((c, i, ts) :: l)
section
variable {X : Cx} {pins : List (Addr × Obj)} {D : Ends} {Wo : WX}
/-- what stands once the exception has been looked at in this frame -/
structure Seen (X : Cx) (pins : List (Addr × Obj)) (a : Addr) (B : Heap) (sI : Shared) (τ : L2.St) (G : Hp) (cls : Value) (dx : Option Addr) (s' : Shared) : Prop where
  J : Inv X pins τ G sI
  nb : ∀ b o, sI.heap.get? b = some o → b ∉ frs X.stack → B.get? b = some o
  up : sI.heap.UpToSlots s'.heap
  na : G a = none
  os : s'.os = sI.os
  ag : AllBare s'.gens
theorem Seen.with {a : Addr} {B : Heap} {sI : Shared} {τ : L2.St} {G : Hp} {cls : Value} {dx : Option Addr} {s' : Shared} (S : Seen X pins a B sI τ G cls dx s') {h : Heap} (kb : B.StaysIn h) (u : s'.heap.UpToSlots h) : Inv X pins τ G { s' with heap := h } :=
  S.J.landed S.nb kb (S.up.trans u) S.os S.ag
/-- the clauses, tried in their order -/
theorem clauses (hst : X.stack = X.env :: X.outer) (hfr : X.env.frame = some X.env.locals) (hN : X.N.Nodup) (tk : Takes X Wo) {a : Addr} {B : Heap} {sI : Shared} {τ : L2.St} {G : Hp} {cls : Value} {dx : Option Addr} {s' : Shared} (S : Seen X pins a B sI τ G cls dx s')
    {h3 : Heap} (fl : HandSPX.FlyingZ B (X.env :: X.outer) a (Zc cls dx) h3) (u3 : s'.heap.UpToSlots h3) : ∀ {hs : List ExceptHandler} {l : List HdT}, HdsN X hs l → wN X.K Wo D l cls dx τ G →
      wpAny (model X.prog X.w) X.A (handleBy (.ref a) X.env hs) (SP X pins D) X.xe { s' with heap := h3 } := by
  have ok := S.J.ok
  have hA : X.A.frames = some (X.env :: X.outer) := by rw [ok.frames, hst]
  have I3 : Inv X pins τ G { s' with heap := h3 } := S.with fl.1 u3
  obtain ⟨o3, f3, g3, z3, d3⟩ := fl.there
  have nfr : a ∉ frs (X.env :: X.outer) := fun hm => by
    obtain ⟨_, o', e', hnf⟩ := fl.2.2.1.mem hm
    rw [g3] at e'
    cases e'
    exact hnf _ d3
  have nL : a ≠ X.env.locals := fun z => nfr (List.mem_filterMap.mpr ⟨X.env, List.mem_cons_self, by rw [hfr, z]⟩)
  have nF : a ∉ X.fs := fun hm => by
    obtain ⟨v, hv, z⟩ := List.mem_filterMap.mp hm
    exact nfr (List.mem_filterMap.mpr ⟨v, List.mem_cons_of_mem _ hv, z⟩)
  have T3 := I3.suite g3 d3 S.na nL nF
  intro hs l hk
  induction hk with
  | nil =>
    intro wo
    refine wpAny_handleBy_nil ?_
    obtain ⟨_, _, _, o, vs, tb, _, _, g, _, dd, t1, _⟩ := id fl
    unfold PySem.passOn
    have last : wpAny (model X.prog X.w) X.A (setFlight (.ref a) X.env.frame) (fun _ s4 => wpAny (model X.prog X.w) X.A (throw (.ref a) : Sem Flow) (SP X pins D) X.xe s4) X.xe { s' with heap := h3 } := by
      rw [hfr]
      exact HandSPX.setFlight_upZ fl fun h4 hh4 u4 => wpAny_throw (tk _ _ ⟨a, B, sI, pins, τ, G, cls, dx, rfl, S.J, S.nb, (S.up.trans u3).trans u4, .inr (.inr (by rw [hst]; exact hh4)), S.na, S.os, S.ag, wo⟩)
    refine wpAny_bind (wpAny_field g dd t1 ?_)
    rw [if_neg (show ¬ ((Value.ref tb == Value.none) = true) from by simp)]
    first
      | exact wpAny_bind last
      | exact wpAny_bind (wpAny_pure (wpAny_bind last))
  | @cons x n c i ts s0 ss p1 p2 hs l nm at_ lo su more ih =>
    rintro ⟨t, ht, yes, no⟩
    refine wpAny_handleBy_cons (codeAny_handlers_test ?_) (fun q => nomatch q)
    have kind : PySem.W.Looks (model X.prog X.w) h3 (typeOf (.ref a)) cls := fun _ _ _ _ k q => wpAny_typeOf_ref (k _ _ g3) (by rw [z3.1]; exact q)
    have fits := PySem.W.exm_one (M := model X.prog X.w) I3.kIn kind ht
    have name : ∀ {Q : Value → Shared → Prop} {E : Value → Shared → Prop}, Q c { s' with heap := h3 } → wpAny (model X.prog X.w) (X.A.mark (some (.ref a))) (eval (.Name x p1) X.env) Q E { s' with heap := h3 } := fun {Q E} q => by
      obtain ⟨gl, db, m | ⟨m, bv, nn⟩⟩ := nm
      · exact ld_glob (X := X.suite a ((a, o3) :: (X.pn ++ pins))) T3 gl m q db
      · exact ld_blt (X := X.suite a ((a, o3) :: (X.pn ++ pins))) T3 gl m bv q nn db
    refine name (fits.here ?_)
    cases t with
    | false =>
      show wpAny _ X.A (handleBy (.ref a) X.env hs) _ _ _
      exact ih (no rfl)
    | true =>
      refine codeAny_handlers_suite_as (HandSPX.lands_againZ fl fun h4 fl4 u4 => ?_)
      have I4 : Inv X pins τ G { s' with heap := h4 } := S.with fl4.1 (u3.trans u4)
      obtain ⟨o4, f4, g4, z4, d4⟩ := fl4.there
      have T4 := I4.suite g4 d4 S.na nL nF
      refine store_ok (X := X.suite a ((a, o4) :: (X.pn ++ pins))) (v := .ref a) T4 hN at_ (.inl lo) rfl (fun s5 T5 => ?_) (.inr lo)
      have end_ : ∀ {τ6 : L2.St} {G6 : Hp} {s6 : Shared} {Q : Shared → Prop}, Inv (X.suite a ((a, o4) :: (X.pn ++ pins))) [] τ6 G6 s6 → (∀ s7, Inv X pins (τ6.set i none) G6 s7 → Q s7) →
          wpAny (model X.prog X.w) X.A (do bindName X.env n .none; unbindBehindTheSuite X.env n p2) (fun _ s7 => Q s7) X.xe s6 := fun {τ6 G6 s6 Q} T6 hq => gone_ok (T6.unsuite ok) hN at_ lo hq
      refine wpAny_mono ((su a o4 cls dx (X.pn ++ pins) z4 ⟨_, d4⟩).run [] s5 _ G _ T5 (yes rfl a S.na)) (fun fw s6 hsp => ?_) (fun _ _ z => z.elim)
      cases fw with
      | next =>
        obtain ⟨τ6, G6, T6, q6⟩ := hsp
        exact end_ T6 fun s7 J7 => ⟨_, _, J7, q6⟩
      | brk =>
        obtain ⟨τ6, G6, T6, q6⟩ := hsp
        exact end_ T6 fun s7 J7 => ⟨_, _, J7, q6⟩
      | cont =>
        obtain ⟨τ6, G6, T6, q6⟩ := hsp
        exact end_ T6 fun s7 J7 => ⟨_, _, J7, q6⟩
      | ret u =>
        obtain ⟨v6, τ6, G6, T6, r6, q6⟩ := hsp
        exact end_ T6 fun s7 J7 => ⟨_, _, _, J7, r6, q6⟩
theorem ps_tryN {body : List Stmt} {h0 : ExceptHandler} {hs : List ExceptHandler} {l : List HdT} {pos : Pos} {tb : WX → TS} (hst : X.stack = X.env :: X.outer) (hfr : X.env.frame = some X.env.locals) (hN : X.N.Nodup) (tk : Takes X Wo)
    (hb : ∀ (W : WX) (pn : List (Addr × Obj)) (xe : Value → Shared → Prop), Takes (X.tr pn xe) W → PassesOwn (model X.prog X.w) X.A X.env xe → PSs (X.tr pn xe) body (tb W)) (hk : HdsN X (h0 :: hs) l) :
    PS X (.Try body (h0 :: hs) [] [] pos) (fun D τ G => tb (wN X.K Wo D l) D τ G) := by
  refine ⟨fun pins s τ G D I h => wpAny_Try_except ?_⟩
  have ok := I.ok
  have hA : X.A.frames = some (X.env :: X.outer) := by rw [ok.frames, hst]
  have B0 := hb (wN X.K Wo D l) (X.pn ++ pins) (fun e s1 => wpAny (model X.prog X.w) X.A (noteFrame e X.env) (fun _ s2 => wpAny (model X.prog X.w) X.A (setFlight e none) (fun _ s3 =>
    wpAny (model X.prog X.w) X.A (handleBy e X.env (h0 :: hs)) (SP X pins D) X.xe s3) X.xe s2) X.xe s1) (fun u s' xx => ?_) PassesOwn.looking
  · refine wpAny_mono (B0.run [] s τ G D (I.toTry _) h) (fun fw s1 hsp => ?_) (fun _ _ z => z)
    cases fw with
    | next =>
      obtain ⟨τ', G', J, q⟩ := hsp
      exact wpAny_execs_nil ⟨τ', G', J.ofTry ok, q⟩
    | brk =>
      obtain ⟨τ', G', J, q⟩ := hsp
      exact ⟨τ', G', J.ofTry ok, q⟩
    | cont =>
      obtain ⟨τ', G', J, q⟩ := hsp
      exact ⟨τ', G', J.ofTry ok, q⟩
    | ret u =>
      obtain ⟨v, τ', G', J, r, q⟩ := hsp
      exact ⟨v, τ', G', J.ofTry ok, r, q⟩
  · obtain ⟨a, B, sI, pins', τ', G', cls, dx, rfl, J, nb, up, sky, na, os, ag, w⟩ := xx
    have S : Seen X pins a B sI τ' G' cls dx s' := ⟨J.ofTry ok, nb, up, na, os, ag⟩
    have sky' : Sky B (X.env :: X.outer) a (Zc cls dx) X.env.locals s'.heap := by rw [← hst]; exact sky
    show wpAny (model X.prog X.w) X.A (noteFrame (.ref a) X.env) _ _ _
    exact Sky.land Zc.steady hA hfr sky' fun h3 fl u3 => clauses hst hfr hN tk S fl u3 hk w
end
end Pk

set_option Elab.async false
set_option linter.all false
set_option autoImplicit false
set_option maxRecDepth 100000
set_option maxHeartbeats 1000000
/-! Sound38: try as IR has it; the suites of the laws. -/
namespace Pk
open PySem PySem.Spec PyProof.Rows L2
section
variable {R : Rd0} {w w' : Wd} {σ : L2.St} {Γ : Env} {M : Mem} {T : List Addr} {D : Ends}
theorem Bears.wish {W : WX} (s : Bears R w σ Γ M T) : Bears { R with W := W } w σ Γ M T := ⟨s.ext, s.zt0, s.zt, s.len, s.val, s.own, s.mu, s.apart, s.tmp, s.tnd, s.mem⟩
theorem Bears.unwish {W : WX} (s : Bears { R with W := W } w σ Γ M T) : Bears R w σ Γ M T := ⟨s.ext, s.zt0, s.zt, s.len, s.val, s.own, s.mu, s.apart, s.tmp, s.tnd, s.mem⟩
/-- a slot of which nothing is known -/
theorem Bears.drop (s : Bears R w σ Γ M T) (i : Nat) (x : Option V) : Bears R w (σ.set i x) (Γ.set i .no) M T := by
  refine ⟨s.ext, s.zt0, s.zt, by simp [s.len], fun j d h => ?_, fun j d h => ?_, fun j d h => ?_, fun j l d d' p h1 h2 h3 h4 => ?_, s.tmp, s.tnd, s.mem⟩
  · rcases set_at h with ⟨_, q⟩ | ⟨ne, q⟩
    · cases q
    · rw [set_ne ne]; exact s.val j d q
  · rcases set_at h with ⟨_, q⟩ | ⟨ne, q⟩
    · cases q
    · rw [set_ne ne]; exact s.own j d q
  · rcases set_at h with ⟨_, q⟩ | ⟨ne, q⟩
    · cases q
    · exact s.mu j d q
  · rcases set_at h1 with ⟨_, q⟩ | ⟨n1, q1⟩
    · cases q
    · rcases set_at h2 with ⟨_, q⟩ | ⟨n2, q2⟩
      · cases q
      · rw [set_ne n1] at h3
        rw [set_ne n2] at h4
        exact s.apart j l d d' p q1 q2 h3 h4
end
/-- a clause's suite; slot i holds the error e, at a -/
def tH (R : Rd0) (i : Nat) (b : Sms) (a : Addr) (cls : Value) (dx : Option Addr) : TS := fun D σ H => ∃ (D0 : Ends) (w : Wd) (Γ : Env) (M : Mem) (e : Pk.D), D = goneD D0 i ∧ w.H = H ∧ Bears R w σ (Γ.set i .no) M [] ∧ i < Γ.length ∧ σ[i]? = some (some (.ref a)) ∧ ExR R.K R.ca w e cls dx ∧
  OutS R w (hdS (some i) (evSs b (setN Γ i e) M)) D0
inductive HdsR (X : Cx) (R : Rd0) : List ExceptHandler → Hds → Prop
  | nil : HdsR X R [] .nil
  | cons {x n : Str} {C : Addr} {i : Nat} {is : Pk.D → Option Bool} {b : Sms} {r : Hds} {s0 : Stmt} {ss : List Stmt} {p1 p2 : Pos} {hs : List ExceptHandler} (nm : Names X x (.ref C)) (at_ : X.N[i]? = some n) (lo : X.env.kindOf n = some .local)
      (fit : ∀ w e cls dx t, ExR R.K R.ca w e cls dx → is e = some t → PySem.W.exmOne X.K cls (.ref C) = some t)
      (su : ∀ (a : Addr) (oe : Obj) (cls : Value) (dx : Option Addr) (pn : List (Addr × Obj)), Zc cls dx oe → (∃ vs, oe.data = .fields vs) → PSs (X.suite a ((a, oe) :: pn)) (s0 :: ss) (tH R i b a cls dx)) (more : HdsR X R hs r) :
      HdsR X R (.ExceptHandler (some (.Name x p1)) (some n) (s0 :: ss) p2 :: hs) (.cons is (some i) b r)
theorem HdsR.to {X : Cx} {R : Rd0} {hs : List ExceptHandler} {r : Hds} (h : HdsR X R hs r) : ∃ l, HdsN X hs l ∧ ∀ (D : Ends) (w : Wd) (e : Pk.D) (Γ : Env) (M : Mem), OutS R w (evH r e Γ M) D → ∀ σ cls dx w', Pres w w' → Bears R w' σ Γ M [] → ExR R.K R.ca w' e cls dx → wN X.K R.W D l cls dx σ w'.H := by
  induction h with
  | nil => exact ⟨[], .nil, fun D w e Γ M o => o⟩
  | @cons x n C i is b r s0 ss p1 p2 hs nm at_ lo fit su more ih =>
    obtain ⟨l, hl, k⟩ := ih
    refine ⟨(.ref C, i, fun a cls dx => tH R i b a cls dx) :: l, .cons nm at_ lo su hl, fun D w e Γ M o σ cls dx w' p bs ex => ?_⟩
    have o : OutS R w (match is e with
      | none => .stuck
      | some true => hdS (some i) (if i < Γ.length then evSs b (setN Γ i e) M else .stuck)
      | some false => evH r e Γ M) D := o
    cases q : is e with
    | none => rw [q] at o; exact o.elim
    | some t =>
      rw [q] at o
      refine ⟨t, fit w' e cls dx t ex q, fun ht a ha => ?_, fun ht => ?_⟩
      · subst ht
        have o : OutS R w (hdS (some i) (if i < Γ.length then evSs b (setN Γ i e) M else .stuck)) D := o
        by_cases hi : i < Γ.length
        · rw [if_pos hi] at o
          refine ⟨D, w', Γ, M, e, rfl, rfl, bs.drop i _, hi, ?_, ex, OutS.fwd o p⟩
          rw [List.getElem?_set, if_pos rfl, if_pos (by rw [bs.len]; exact hi)]
        · rw [if_neg hi] at o; exact (show False from o).elim
      · subst ht
        exact k D w e Γ M o σ cls dx w' p bs ex
section
variable {S : Sx} {k : Nat} {ca : String → Addr} {X : Cx} {R : Rd0}
theorem s_try {body : List Stmt} {h0 : ExceptHandler} {hs : List ExceptHandler} {pos : Pos} {ib : Sms} {ih : Hds} (B : Bd S k ca X R) (hst : S.st = true) (hb : ∀ (pn : List (Addr × Obj)) (xe : Value → Shared → Prop) (W : WX), Bd S k ca (X.tr pn xe) { R with W := W } → PSs (X.tr pn xe) body (tMs { R with W := W } ib)) (hh : HdsR X R (h0 :: hs) ih) :
    PS X (.Try body (h0 :: hs) [] [] pos) (tM R (.try_ ib ih)) := by
  obtain ⟨l, hl, key⟩ := hh.to
  obtain ⟨k1, k2⟩ := B.stk hst
  refine PSmono (ps_tryN (tb := fun W => tMs { R with W := W } ib) k1 k2 (B.nN ▸ B.nd) B.tk (fun W pn xe tk po => hb pn xe W ⟨B.nN, B.nd, B.nsc, B.calm, B.room, B.grd, tk, fun _ => po, B.fn, B.bk, B.RK, B.Rca, B.Rmu, B.stk⟩) hl) fun D σ H ⟨w, Γ, M, hw, b, o⟩ => ⟨w, Γ, M, hw, b.wish, ?_⟩
  have o : OutS R w (match evSs ib Γ M with
    | .err e Γ M => evH ih e Γ M
    | r => r) D := o
  revert o
  cases evSs ib Γ M with
  | next Γ' M' => exact fun o σ' w' p b' => o σ' w' p b'.unwish
  | brk Γ' M' => exact fun o σ' w' p b' => o σ' w' p b'.unwish
  | cont Γ' M' => exact fun o σ' w' p b' => o σ' w' p b'.unwish
  | ret d M' => exact id
  | err e Γ' M' => exact fun o σ' cls dx w' p b' ex => key D w e Γ' M' o σ' cls dx w' p b'.unwish ex
  | stuck => exact id
/-- the class that a clause names; its name's slot -/
theorem nm_of {x : Str} {C : Addr} (B : Bd S k ca X R) (h : okGl S x = true) (hm : X.mg x = some (.ref C)) : Names X x (.ref C) := by
  obtain ⟨h1, h2, _⟩ := gl_of B h
  exact ⟨h1, h2, .inl hm⟩
def okLo (S : Sx) (i : Nat) (x : Str) : Bool := (S.N[i]? == some x) && (S.sc.names.lookup x == some .local)
theorem lo_of {x : Str} {i : Nat} (B : Bd S k ca X R) (h : okLo S i x = true) : X.N[i]? = some x ∧ X.env.kindOf x = some .local := by
  unfold okLo at h
  simp only [Bool.and_eq_true, beq_iff_eq] at h
  unfold Env.kindOf
  rw [B.nN, B.nsc]
  exact h
/-- which classes a clause catches -/
def isErr (sub : String → Option Bool) : Pk.D → Option Bool
  | .ins c _ _ => sub c
  | _ => none
theorem fit_of {C : Addr} {sub : String → Option Bool} (B : Bd S k ca X R) (h : ∀ c t, sub c = some t → PySem.W.exmOne X.K (.ref (ca c)) (.ref C) = some t) : ∀ w e cls dx t, ExR R.K R.ca w e cls dx → isErr sub e = some t → PySem.W.exmOne X.K cls (.ref C) = some t := by
  rintro w e cls dx t ⟨c, ns, ds, d, fs, rfl, rfl, _⟩ q
  rw [B.Rca]
  exact h c t q
end
theorem exm_of {K : PySem.W.Frag} {C S : Addr} {b : Bool} (h1 : PySem.W.subIn K (.ref S) (.type "BaseException") = some true) (h2 : PySem.W.isClsIn K S = true) (h3 : PySem.W.typeIn K (.ref S) = some (.type "type")) (h4 : PySem.W.subIn K (.ref C) (.ref S) = some b) :
    PySem.W.exmOne K (.ref C) (.ref S) = some b := by
  have h2 : (PySem.W.clsIn K S).isSome = true := h2
  unfold PySem.W.exmOne PySem.W.kitCls
  rw [h1, if_pos (by simp)]
  show (if ((PySem.W.clsIn K S).isSome && PySem.W.typeIn K (.ref S) == some (.type "type")) = true then _ else _) = _
  rw [h2, h3, if_pos (by simp)]
  exact h4
theorem kit_cls {K : PySem.W.Frag} {C S : Addr} {b : Bool} (h0 : PySem.W.subIn K (.ref C) (.ref C) = some true) (h2 : PySem.W.isClsIn K S = true) (h3 : PySem.W.typeIn K (.ref S) = some (.type "type")) (h4 : PySem.W.subIn K (.ref C) (.ref S) = some b) :
    PySem.W.kitOne K (.ref C) (.ref S) = some b := by
  have h2 : (PySem.W.clsIn K S).isSome = true := h2
  unfold PySem.W.kitOne
  by_cases e : C = S
  · subst e
    rw [if_pos (by simp)]
    rw [h0] at h4; exact h4
  · rw [if_neg (by simp [e])]
    unfold PySem.W.kitCls
    show (if ((PySem.W.clsIn K S).isSome && PySem.W.typeIn K (.ref S) == some (.type "type")) = true then _ else _) = _
    rw [h2, h3, if_pos (by simp)]
    exact h4
theorem kit_typ {K : PySem.W.Frag} {C : Addr} {T : String} {b : Bool} (h1 : PySem.W.kitMeta T = true) (h4 : PySem.W.subIn K (.ref C) (.type T) = some b) : PySem.W.kitOne K (.ref C) (.type T) = some b := by
  unfold PySem.W.kitOne
  rw [if_neg (by simp)]
  unfold PySem.W.kitCls
  show (if PySem.W.kitMeta T = true then _ else _) = _
  rw [if_pos h1]
  exact h4
end Pk

set_option Elab.async false
set_option linter.all false
set_option autoImplicit false
set_option maxRecDepth 100000
set_option maxHeartbeats 1000000
/-! Sound39: found = ('word', repr(e.f), _law_bases(e)). -/
namespace Pk
open PySem PySem.Spec PyProof.Rows L2
abbrev Bas := String → Option (Bool × Bool × Bool)
/-- the triple that tells of a caught error: a word, what it keeps, its base classes -/
def pErrA (wd : Cs) (f : String) (bas : Bas) : Fn := fun ds M => match ds with
  | [.ins c [f'] [d]] => if f' = f then (match bas c with
    | some (b1, b2, b3) => bnd (pRepr [d] M) fun s M => .ok (.tup [.str wd, s, .lst [.bl b1, .bl b2, .bl b3]]) M
    | none => .stuck) else .stuck
  | _ => .stuck
/-- what the written part says of the errors' classes -/
structure ErrT (K : PySem.W.Frag) (ca : String → Addr) (C1 C2 C3 : Addr) (bas : Bas) : Prop where
  ok : ∀ c b1 b2 b3, bas c = some (b1, b2, b3) → ErrI K (ca c) ∧ PySem.W.hasDictIn K (ca c) = true ∧
    (PySem.W.kitOne K (.ref (ca c)) (.ref C1) = some b1 ∧ PySem.W.kitOne K (.ref (ca c)) (.ref C2) = some b2 ∧ PySem.W.kitOne K (.ref (ca c)) (.ref C3) = some b3) ∧
    (PySem.W.kitOne K (.ref (ca c)) (.type "ValueError") = some b1 ∧ PySem.W.kitOne K (.ref (ca c)) (.type "LookupError") = some b2 ∧ PySem.W.kitOne K (.ref (ca c)) (.type "ArithmeticError") = some b3)
section
variable {X : Cx} {R : Rd0} {a dx : Addr} {oe : Obj} {C : Addr} {i : Nat} {en f : Str} {p1 p2 rp rq : Pos}
/-- repr(e.f) -/
def tRpX (R : Rd0) (i : Nat) (a dx : Addr) (f : Str) : TE := fun σ H Q => ∃ (w : Wd) (Γ : Env) (M : Mem) (d : D) (s : Cs) (fs : List (Str × V)) (v : V), w.H = H ∧ Bears R w σ Γ M [] ∧ σ[i]? = some (some (.ref a)) ∧ H dx = some (.xd fs) ∧ fs.lookup f = some v ∧
  Rp R.K R.ca w false v d ∧ pRepr [d] M = .ok (.str s) M ∧ ∀ w', Ext w w' → Bears R w' σ Γ M [] → Q (.str (sof s)) w'.H
theorem pe_rpX (hK : R.K = X.K) (hu : X.A.units + 65 < cLine) (hgd : X.A.guards = some []) (ha : PE X (.Attribute (.Name en p1) f p2) (tAtX i a dx f)) (hg : Gl X "repr") (hm : X.mg "repr" = none) :
    PE X (.Call (.Name "repr" rp) [.Attribute (.Name en p1) f p2] [] rq) (tRpX R i a dx f) := by
  refine ⟨fun pins s σ H Q I h => ?_⟩
  obtain ⟨w, Γ, M, d, t, fs, v, rfl, b, h1, hx, hl, rp', e, q⟩ := h
  refine wpAny_Call_Name_kw (ld_blt I hg hm (show bootBuiltins "repr" = some (.builtin "repr") from rfl) ?_ (by decide) (by decide))
  refine PyProof.Rows.callWith_builtin1 (thn ((pa_cons ha pa_nil (star_cons rfl)).run rq pins s σ w.H (fun vs H1 => vs = [v] ∧ H1 = w.H) I ⟨h1, fs, v, hx, hl, rfl, rfl⟩) fun us s1 hh => ?_) (star_cons rfl) (by rfl)
  obtain ⟨vs, H1, I1, r1, rfl, rfl⟩ := hh
  refine b_repr0 (R := R) hK hu hgd pins s1 σ Γ M [] w [d] [v] us Q I1 b (.cons rp'.up .nil) r1 ?_
  rw [e]
  exact fun w' e' b' u ru => by
    cases ru
    exact q w' e' b'
end
theorem one_field {fs : List (Str × V)} {f : String} {K : PySem.W.Frag} {ca : String → Addr} {w : Wd} {d : D} (h1 : fs.map (·.1) = [f].map Str.ofString) (h2 : RpAll K ca w (fs.map (·.2)) [d]) : ∃ v, fs = [(Str.ofString f, v)] ∧ Rp K ca w false v d := by
  match fs, h1, h2 with
  | [(g, v)], h1, h2 =>
    have e : g = Str.ofString f := by simpa using h1
    subst e
    cases h2 with
    | cons r _ => exact ⟨v, rfl, r⟩
theorem errA_ok {wd : Cs} {f : String} {bas : Bas} {e : D} {M M' : Mem} {x : D} (h : pErrA wd f bas [e] M = .ok x M') : ∃ c d b1 b2 b3 s, e = .ins c [f] [d] ∧ bas c = some (b1, b2, b3) ∧ pRepr [d] M = .ok (.str s) M ∧ M' = M ∧ x = .tup [.str wd, .str s, .lst [.bl b1, .bl b2, .bl b3]] := by
  unfold pErrA at h
  split at h
  · rename_i c f' d eq
    split at h
    · rename_i ef
      subst ef
      cases hb : bas c with
      | none => rw [hb] at h; cases h
      | some b =>
        obtain ⟨b1, b2, b3⟩ := b
        rw [hb] at h
        have h : bnd (pRepr [d] M) (fun s M => Res.ok (D.tup [.str wd, s, .lst [.bl b1, .bl b2, .bl b3]]) M) = .ok x M' := h
        by_cases e0 : isE0 d = true
        · have hp : pRepr [d] M = .ok (.str [123, 125]) M := if_pos e0
          rw [hp, bnd_ok] at h
          cases h
          cases eq
          exact ⟨c, d, b1, b2, b3, [123, 125], rfl, hb, hp, rfl, rfl⟩
        have hp : pRepr [d] M = if pl 8 d = true ∧ (toPy d).showable = true ∧ (reprD d).length ≤ 10 * lim then Res.ok (D.str (reprD d)) M else Res.stuck := if_neg e0
        rw [hp] at h
        by_cases c0 : pl 8 d = true ∧ (toPy d).showable = true ∧ (reprD d).length ≤ 10 * lim
        · rw [if_pos c0] at h
          rw [bnd_ok] at h
          cases h
          cases eq
          exact ⟨c, d, b1, b2, b3, reprD d, rfl, hb, hp.trans (if_pos c0), rfl, rfl⟩
        · rw [if_neg c0] at h; cases h
    · cases h
  · cases h
theorem ev_one {Γ : Env} {M : Mem} {F : Fn} {e : D} {i j : Nat} (h : getS Γ i = some e) : evSs (.cons (.asg (.n j) (.app F (.cons (.var i) .nil))) .nil) Γ M = Pk.vS (F [e] M) Γ fun x M => .next (setN Γ j x) M := by
  show (match (Pk.vS (bnd (bnd (match getS Γ i with
    | some d => Res.ok d M
    | none => .stuck) fun d M => bnd (.ok [] M) fun ds M => .ok (d :: ds) M) F) Γ fun x M => RS.next (setN Γ j x) M) with
    | .next Γ M => RS.next Γ M
    | x => x) = _
  rw [h]
  show (match Pk.vS (F [e] M) Γ (fun x M => RS.next (setN Γ j x) M) with
    | .next Γ M => RS.next Γ M
    | x => x) = _
  cases F [e] M <;> rfl
theorem set_swap {Γ : Env} {i j : Nat} {x y z : Slot} (h : i ≠ j) : (((Γ.set i x).set j y).set i z) = (((Γ.set i z).set j y).set i z) := by
  rw [List.set_comm _ _ (Ne.symm h), List.set_set, List.set_comm _ _ (Ne.symm h), List.set_set]
section
variable {S : Sx} {k : Nat} {ca : String → Addr} {X : Cx} {R : Rd0} {C1 C2 C3 fb : Addr} {fd : FuncData} {bas : Bas} {i j : Nat} {en fn : Str} {x0 x9 r1 r2 r3 r4 b1' b2' b3' t1 s1 : Pos} {wd : Cs} {ws : Str} {kw kt : Nat} {f : String}
/-- THE SUITE -/
theorem su_A (B : Bd S k ca X R) (hk : 1 ≤ k) (F : FnP X.prog X.w X.K X.mg X.base 1 fb fd ["e"] (spBas X.K C1 C2 C3)) (hkb : PySem.W.keepIn X.K (.ref fb) = true) (hbb : Binds X.K fd ["e"] []) (ET : ErrT X.K ca C1 C2 C3 bas)
    (no : ∀ c b, bas c = some b → PySem.W.findIn X.K (.ref (ca c)) (Str.ofString f) = some none) (hij : i ≠ j) (hi : okVar S i en true = true) (hj : okTg S j fn = true) (hr : okGl S "repr" = true) (hl : okGl S "_law_bases" = true) (mr : X.mg "repr" = none) (ml : X.mg "_law_bases" = some (.ref fb)) (hw : ws = sof wd) :
    ∀ (a : Addr) (oe : Obj) (cls : Value) (dx : Option Addr) (pn : List (Addr × Obj)), Zc cls dx oe → (∃ vs, oe.data = .fields vs) →
      PSs (X.suite a ((a, oe) :: pn)) [.Assign [.Name fn x0] (.Tuple [.Constant (.str ws) kw t1, .Call (.Name "repr" r1) [.Attribute (.Name en r2) (Str.ofString f) r3] [] r4, .Call (.Name "_law_bases" b1') [.Name en b2'] [] b3'] kt s1) x9]
        (tH R i (.cons (.asg (.n j) (.app (pErrA wd f bas) (.cons (.var i) .nil))) .nil) a cls dx) := by
  intro a oe cls dx pn zc hf
  subst hw
  refine ⟨fun pins s σ H D I hh => ?_⟩
  obtain ⟨D0, w, Γ, M, e, rfl, rfl, bs, hi', hσ, ex, o⟩ := hh
  obtain ⟨c, ns, ds, d, fs, rfl, rfl, rfl, hx, nκ, nZ, e1, e2⟩ := ex
  have eg : getS (setN Γ i (.ins c ns ds)) i = some (.ins c ns ds) := by
    unfold getS slotAt Pk.setN
    rw [List.getD_eq_getElem?_getD, List.getElem?_set, if_pos rfl, if_pos hi']; rfl
  rw [ev_one eg] at o
  cases hF : pErrA wd f bas [.ins c ns ds] M with
  | stuck => rw [hF] at o; exact (show False from o).elim
  | err e M' => rw [hF] at o; exact (show False from o).elim
  | ok x M' =>
    rw [hF] at o
    obtain ⟨c', d0, u1, u2, u3, t, ec, hb, hrp, rfl, rfl⟩ := errA_ok hF
    cases ec
    obtain ⟨v, rfl, rv⟩ := one_field e1 e2
    obtain ⟨E, hdC, ⟨k1, k2, k3⟩, k4, k5, k6⟩ := ET.ok c u1 u2 u3 hb
    obtain ⟨hcls, hdict⟩ := zc
    have hh : HeldX (X.suite a ((a, oe) :: pn)) a oe (ca c) d := ⟨List.mem_cons_self, by rw [hcls, B.Rca], hdict, hf⟩
    unfold okVar at hi
    simp only [Bool.and_eq_true, Bool.not_eq_true', beq_iff_eq] at hi
    obtain ⟨⟨⟨⟨hN, hV⟩, _⟩, hd1⟩, hd2⟩ := hi
    have hN : X.N[i]? = some en := by rw [B.nN]; exact hN
    have hV : Vis X.env.scope en := by rw [B.nsc]; exact vis_of hV
    obtain ⟨j1, j2, j3⟩ := tg_of B hj
    obtain ⟨gr, _⟩ := gl_of B hr
    obtain ⟨gb, gb2, _⟩ := gl_of B hl
    have pA : PE (X.suite a ((a, oe) :: pn)) (.Attribute (.Name en r2) (Str.ofString f) r3) (tAtX i a d (Str.ofString f)) := pe_atX hh E hdC (no c _ hb) hN hV hd1 hd2 rfl
    have pR := pe_rpX (R := R) (rp := r1) (rq := r4) (X := X.suite a ((a, oe) :: pn)) B.RK B.hu B.grd pA gr mr
    have rmH : L2H.RoomH 1 (X.suite a ((a, oe) :: pn)).A := ⟨(B.room.mono hk).dp, (B.room.mono hk).un⟩
    have pB := pe_callP (X := X.suite a ((a, oe) :: pn)) (q := b1') (pos := b3') (p := (a, oe)) F rmH List.mem_cons_self gb ml hkb hbb (pa_cons (pe_var (i := i) (pos := b2') hN hV hd1 hd2) pa_nil (star_cons rfl)) gb2 (star_cons rfl) (by rfl)
    refine (pss_one (ps_set (X := X.suite a ((a, oe) :: pn)) (B.nN ▸ B.nd) j1 j2 (pe_tup (pa_cons pe_str (pa_cons pR (pa_cons pB pa_nil (star_cons rfl)) (star_cons rfl)) (star_cons rfl))) rfl j3)).run pins s σ w.H (goneD D0 i) I ?_
    refine ⟨w, _, M', d0, t, _, v, rfl, bs, hσ, hx, by simp, rv, hrp, fun w1 x1 y1 => ?_⟩
    refine ⟨_, hσ, rfl, ca c, d, u1, u2, u3, by rw [hcls, B.Rca], hdict, hf, ⟨_, x1.keep _ _ hx nκ⟩, E, ⟨k1, k2, k3⟩, ⟨k4, k5, k6⟩, fun q1 q2 z1 z2 => ⟨by rw [sizeLine_eq]; show 3 ≤ 16777216; omega, fun q3 z3 => ?_⟩⟩
    have c1 : Bears R (w1.at q1 (.lst [.bl u1, .bl u2, .bl u3])) σ (Γ.set i .no) M' [] := y1.at z1
    have c2 : Bears R ((w1.at q1 (.lst [.bl u1, .bl u2, .bl u3])).at q2 (.lst [.bl u1, .bl u2, .bl u3])) σ (Γ.set i .no) M' [] := c1.at z2
    have c3 : Bears R (((w1.at q1 (.lst [.bl u1, .bl u2, .bl u3])).at q2 (.lst [.bl u1, .bl u2, .bl u3])).at q3 (.tup [.str (sof wd), .str (sof t), .ref q1])) σ (Γ.set i .no) M' [] := c2.at z3
    have rb : RpAll R.K R.ca w1 [.bl u1, .bl u2, .bl u3] [.bl u1, .bl u2, .bl u3] := .cons (.bl _) (.cons (.bl _) (.cons (.bl _) .nil))
    have rq1 : Rp R.K R.ca (w1.at q1 (.lst [.bl u1, .bl u2, .bl u3])) false (.ref q1) (.lst [.bl u1, .bl u2, .bl u3]) := new_lst y1 z1 rb
    have rt := new_tup c2 z3 (.cons (.str wd) (.cons (.str t) (.cons (rq1.ext (Ext.at z2)) .nil)))
    have c4 := (c3.setN j rt).drop i none
    have p : Pres w (((w1.at q1 (.lst [.bl u1, .bl u2, .bl u3])).at q2 (.lst [.bl u1, .bl u2, .bl u3])).at q3 (.tup [.str (sof wd), .str (sof t), .ref q1])) := (((x1.trans (Ext.at z1)).trans (Ext.at z2)).trans (Ext.at z3)).pres bs
    have o : ∀ σ' w', Pres w w' → Bears R w' σ' ((Pk.setN (Pk.setN Γ i (.ins c [f] [d0])) j (.tup [.str wd, .str t, .lst [.bl u1, .bl u2, .bl u3]])).set i .no) M' [] → D0.nx σ' w'.H := o
    refine o _ _ p ?_
    unfold Pk.setN at c4 ⊢
    rw [set_swap hij]
    exact c4
end
end Pk

set_option Elab.async false
set_option linter.all false
set_option autoImplicit false
set_option maxRecDepth 100000
set_option maxHeartbeats 1000000
/-! Sound40: {}, upper. -/
namespace Pk
open PySem PySem.Spec PyProof.Rows L2
section
variable {X : Cx} {R : Rd0} {z : Bool} {o : Expr} {io : Ex} {pos apos : Pos}
theorem e_dict0 : PE X (.Dict [] [] pos) (tE R z (.const (.dict [] []))) := PE.up <| by
  refine ⟨fun pins s σ H Q I h => ?_⟩
  obtain ⟨w, Γ, M, T, rfl, b, q⟩ := h
  refine thn (pe_dnewK.run pins s σ w.H (fun v H1 => ∃ p, v = .ref p ∧ w.H p = none ∧ H1 = upd w.H p (.dK [])) I fun p hp => ⟨p, rfl, hp, rfl⟩) fun u s1 hh => ?_
  obtain ⟨v, H1, I1, rv, p, rfl, hp, rfl⟩ := hh
  obtain ⟨od, J⟩ := I1.lock (d := p) (u := .dK []) upd_same trivial
  have eH : upd (upd w.H p (.dK [])) p (.frz od (.dK [])) = upd w.H p (.frz od (.dK [])) := by
    funext y
    by_cases h1 : y = p
    · subst h1; rw [upd_same, upd_same]
    · rw [upd_ne h1, upd_ne h1, upd_ne h1]
  rw [eH] at J
  have q : OutR R σ Γ T w (.ok (D.dict [] []) M) _ := q
  exact ⟨.ref p, _, J, rv, OutR.new q b hp _ (.dK (kvs := []) upd_same (by have := new_nκ b hp; exact this) .nil .nil)⟩
theorem upper_sof {s : Cs} (h : s.all (fun c => decide (c < 128)) = true) : Txt.upper (sof s) = sof (s.map upC) := by
  rw [PyProof.Rows.upper_ascii (x := sof s) (fun c hc => of_decide_eq_true (List.all_eq_true.mp h c hc))]
  unfold sof
  simp
  exact fun _ _ => rfl
theorem e_upper (ho : PE X o (tE R true io)) (hbase : attributeBase o "upper" X.env (eval o X.env) = eval o X.env := by rfl) (hline : (apos.endLine == pos.line) = true := by rfl) :
    PE X (.Call (.Attribute o "upper" apos) [] [] pos) (tE R z (.app pUpper (.cons io .nil))) :=
  PE.up <| PEmono (pe_upper ho hbase hline) fun σ H Q ⟨w, Γ, M, T, hw, sr, o⟩ => by
    subst hw
    refine ⟨w, Γ, M, T, rfl, sr, (a1e o).imp fun x M1 w1 e1 b1 o1 v r => ?_⟩
    obtain ⟨y, rfl⟩ : ∃ y, x = .str y := by cases x with | str y => exact ⟨y, rfl⟩ | _ => exact (show False from o1).elim
    have o1 : OutR R σ Γ T w1 (if y.length ≤ lim ∧ y.all (fun c => decide (c < 128)) = true then Res.ok (D.str (y.map upC)) M1 else Res.stuck) _ := o1
    by_cases c : y.length ≤ lim ∧ y.all (fun c => decide (c < 128)) = true
    · rw [if_pos c] at o1
      cases r
      have q := OutR.here o1 b1
      refine ⟨⟨_, rfl⟩, _, rfl, rfl, by rw [sof_len]; have := c.1; unfold lim at this; omega, ?_⟩
      rw [upper_sof c.2]
      exact q _ (.str _)
    · rw [if_neg c] at o1; exact o1.elim
end
/-- x == (), x a tuple -/
def pEqE : Fn
  | [.tup xs, .tup []], M => .ok (.bl xs.isEmpty) M
  | _, _ => .stuck
theorem o_eqE {S : Sx} {k : Nat} {ca : String → Addr} {X : Cx} {R : Rd0} (B : Bd S k ca X R) : OpP X R (compareOp .Eq) pEqE := by
  intro pins s σ Γ M T w x y vx vy u1 u2 Q I b rx ry r1 r2 o
  by_cases h : ∃ xs, x = .tup xs ∧ y = .tup []
  · obtain ⟨xs, rfl, rfl⟩ := h
    have o : OutR R σ Γ T w (.ok (D.bl xs.isEmpty) M) _ := o
    have q := OutR.here o b
    cases rx with
    | @tup _ a vs _ ta ra =>
    cases ry with
    | @tup _ a2 vs2 _ tb rb =>
    cases rb
    cases (show u1 = Value.ref a from r1)
    cases (show u2 = Value.ref a2 from r2)
    obtain ⟨us, v1, p1, _⟩ := I.tuple (B.RK ▸ ta.sq)
    obtain ⟨ws, v2, p2, _⟩ := I.tuple (B.RK ▸ tb.sq)
    cases v2
    have hu : X.A.units < cLine := by have := B.hu; omega
    refine SeqAt.eq_tupleAt (e := fun _ => true) p1 p2 hu (fun j h1 h2 => absurd h2 (by simp)) ?_
    have e : ((List.range (min us.toArray.size ([] : List Value).toArray.size)).all (fun _ => true) && us.toArray.size == ([] : List Value).toArray.size) = xs.isEmpty := by
      have hl : us.length = xs.length := v1.length.symm.trans ra.length
      cases xs with
      | nil => simp at hl; subst hl; rfl
      | cons x xs =>
        cases us with
        | nil => simp at hl
        | cons u us => simp
    rw [e]
    exact ⟨.bl xs.isEmpty, w.H, I, rfl, q _ (.bl _)⟩
  · exfalso
    revert o
    unfold pEqE
    split
    · rename_i e
      injection e with e1 e2
      injection e2 with e2 e3
      exact fun _ => h ⟨_, e1, e2⟩
    · exact id
end Pk

set_option Elab.async false
set_option linter.all false
set_option autoImplicit false
set_option maxRecDepth 100000
set_option maxHeartbeats 1000000
/-! Plain1: what IR does, as goals. -/
namespace Pk

/-- what keeps simp out of x -/
inductive Bx {α : Sort _} (x : α) : Type where
  | mk
/-- r gives a value, and Q holds of it and the memory -/
def wp {α : Type} (r : Res α) (Q : α → Mem → Prop) (_ : Bx Q := .mk) : Prop :=
  match r with
  | .ok a M => Q a M
  | _ => False
/-- .. statements: behind them, or what they return -/
def wpS (r : RS) (N : Env → Mem → Prop) (Rt : D → Mem → Prop) (_ : Bx N := .mk) (_ : Bx Rt := .mk) : Prop :=
  match r with
  | .next Γ M => N Γ M
  | .ret d M => Rt d M
  | _ => False
@[simp] theorem wp_ok {α : Type} {a : α} {M : Mem} {Q : α → Mem → Prop} : wp (.ok a M) Q ↔ Q a M := (Iff.rfl)
@[simp] theorem wp_stuck {α : Type} {Q : α → Mem → Prop} : wp (.stuck : Res α) Q ↔ False := (Iff.rfl)
@[simp] theorem wpS_next {Γ : Env} {M : Mem} {N : Env → Mem → Prop} {Rt : D → Mem → Prop} : wpS (.next Γ M) N Rt ↔ N Γ M := (Iff.rfl)
@[simp] theorem wpS_ret {d : D} {M : Mem} {N : Env → Mem → Prop} {Rt : D → Mem → Prop} : wpS (.ret d M) N Rt ↔ Rt d M := (Iff.rfl)
@[simp] theorem wpS_err {e : D} {Γ : Env} {M : Mem} {N : Env → Mem → Prop} {Rt : D → Mem → Prop} : wpS (.err e Γ M) N Rt ↔ False := (Iff.rfl)
@[simp] theorem wpS_stuck {N : Env → Mem → Prop} {Rt : D → Mem → Prop} : wpS .stuck N Rt ↔ False := (Iff.rfl)
/-- what simp leaves as it is -/
def Hold (p : Prop) (_ : Bx p := .mk) : Prop := p
theorem hold {p : Prop} (h : p) : Hold p := h
theorem wp.mono {α : Type} {r : Res α} {P Q : α → Mem → Prop} (h : wp r P) (i : ∀ a M, P a M → Q a M) : wp r Q := by
  cases r with
  | ok a M => exact i a M h
  | err e M => exact h
  | stuck => exact h
theorem wpS.mono {r : RS} {N N' : Env → Mem → Prop} {Rt Rt' : D → Mem → Prop} (h : wpS r N Rt) (i : ∀ Γ M, N Γ M → N' Γ M) (j : ∀ d M, Rt d M → Rt' d M) : wpS r N' Rt' := by
  cases r with
  | next Γ M => exact i Γ M h
  | ret d M => exact j d M h
  | _ => exact h
theorem wp.ex {α : Type} {r : Res α} {Q : α → Mem → Prop} (h : wp r Q) : ∃ a M, r = .ok a M ∧ Q a M := by
  cases r with
  | ok a M => exact ⟨a, M, rfl, h⟩
  | err e M => exact h.elim
  | stuck => exact h.elim
@[simp] theorem wp_bnd {α β : Type} {x : Res α} {f : α → Mem → Res β} {Q : β → Mem → Prop} : wp (bnd x f) Q ↔ wp x fun a M => wp (f a M) Q := by
  cases x <;> exact Iff.rfl
@[simp] theorem wpS_vS {α : Type} {x : Res α} {Γ : Env} {f : α → Mem → RS} {N : Env → Mem → Prop} {Rt : D → Mem → Prop} : wpS (vS x Γ f) N Rt ↔ wp x fun a M => wpS (f a M) N Rt := by
  cases x <;> exact Iff.rfl
@[simp] theorem wp_ite {α : Type} {c : Prop} [Decidable c] {a b : Res α} {Q : α → Mem → Prop} : wp (if c then a else b) Q ↔ if c then wp a Q else wp b Q := by split <;> exact Iff.rfl
@[simp] theorem wpS_ite {c : Prop} [Decidable c] {a b : RS} {N : Env → Mem → Prop} {Rt : D → Mem → Prop} : wpS (if c then a else b) N Rt ↔ if c then wpS a N Rt else wpS b N Rt := by split <;> exact Iff.rfl
/-- a statement, then more -/
def seqS (x : RS) (r : Sms) : RS := match x with
  | .next Γ M => evSs r Γ M
  | x => x
@[simp] theorem wpS_seq {x : RS} {r : Sms} {N : Env → Mem → Prop} {Rt : D → Mem → Prop} : wpS (seqS x r) N Rt ↔ wpS x (fun Γ M => wpS (evSs r Γ M) N Rt) Rt := by
  cases x <;> exact Iff.rfl
/-- what a def's body ends in -/
def endS (x : RS) : Res D := match x with
  | .ret d M => .ok d M
  | .next _ M => .ok .non M
  | .err e _ M => .err e M
  | _ => .stuck
@[simp] theorem wp_end {x : RS} {Q : D → Mem → Prop} : wp (endS x) Q ↔ wpS x (fun _ M => Q .non M) Q := by
  cases x <;> exact Iff.rfl
section
variable {Γ : Env} {M : Mem} {i : Nat} {e a b c : Ex} {r : Exs} {F G : Fn} {d : D} {s : Sm} {ss p q : Sms} {N : Env → Mem → Prop} {Rt : D → Mem → Prop} {Q : D → Mem → Prop} {tg : Tg}
/-- a name's value -/
def vAt (Γ : Env) (i : Nat) (M : Mem) : Res D := match (slotAt Γ i).get with
  | some d => .ok d M
  | none => .stuck
def vvAt (Γ : Env) (i : Nat) (M : Mem) : Res D := match slotAt Γ i with
  | .val d => .ok d M
  | _ => .stuck
theorem fn_eq {ps n : Nat} {b : Sms} {ds : List D} : fnSem ps n b ds M = if ds.length = ps then endS (evSs b (start0 n ds) M) else .stuck := by
  unfold fnSem endS
  split
  · cases evSs b (start0 n ds) M <;> rfl
  · rfl
@[simp] theorem ev_var : ev (.var i) Γ M = vAt Γ i M := (rfl)
@[simp] theorem ev_vvar : ev (.vvar i) Γ M = vvAt Γ i M := (rfl)
@[simp] theorem ev_const : ev (.const d) Γ M = .ok d M := (rfl)
@[simp] theorem ev_app : ev (.app F r) Γ M = bnd (evs r Γ M) F := (rfl)
@[simp] theorem ev_ite : ev (.ite c a b) Γ M = bnd (ev c Γ M) fun d M => bnd (asBool d M) fun t M => if t = true then ev a Γ M else ev b Γ M := (rfl)
@[simp] theorem ev_and : ev (.andV a b) Γ M = bnd (ev a Γ M) fun d M => bnd (asBool d M) fun t M => if t = true then ev b Γ M else .ok (.bl false) M := (rfl)
@[simp] theorem ev_or : ev (.orV a b) Γ M = bnd (ev a Γ M) fun d M => bnd (asBool d M) fun t M => if t = true then .ok (.bl true) M else ev b Γ M := (rfl)
@[simp] theorem ev_not : ev (.notV a) Γ M = bnd (ev a Γ M) fun d M => bnd (asBool d M) fun t M => .ok (.bl (!t)) M := (rfl)
@[simp] theorem ev_chain : ev (.chain F G a b c) Γ M = bnd (ev a Γ M) fun x M => bnd (ev b Γ M) fun y M => bnd (F [x, y] M) fun d M => bnd (asBool d M) fun t M => if t = true then bnd (ev c Γ M) fun z M => G [y, z] M else .ok (.bl false) M := (rfl)
@[simp] theorem evs_nil : evs .nil Γ M = .ok [] M := (rfl)
@[simp] theorem evs_cons : evs (.cons a r) Γ M = bnd (ev a Γ M) fun d M => bnd (evs r Γ M) fun ds M => .ok (d :: ds) M := (rfl)
@[simp] theorem evSs_nil : evSs .nil Γ M = .next Γ M := (rfl)
@[simp] theorem evSs_cons : evSs (.cons s ss) Γ M = seqS (evS s Γ M) ss := by
  show (match evS s Γ M with
    | .next Γ M => evSs ss Γ M
    | x => x) = _
  cases evS s Γ M <;> rfl
@[simp] theorem evS_n : evS (.asg (.n i) e) Γ M = vS (ev e Γ M) Γ fun d M => .next (setN Γ i d) M := (rfl)
@[simp] theorem evS_o : evS (.asg (.o i) e) Γ M = vS (ev e Γ M) Γ fun d M => .next (setO Γ i d) M := (rfl)
@[simp] theorem evS_so {ix : Ex} : evS (.asg (.so i ix) e) Γ M = vS (ev e Γ M) Γ fun d M => asgAt (.so i ix) d Γ M := (rfl)
@[simp] theorem evS_sc {ix : Ex} : evS (.asg (.sc b ix) e) Γ M = vS (ev e Γ M) Γ fun d M => asgAt (.sc b ix) d Γ M := (rfl)
@[simp] theorem evS_ac {cs : List String} {f : String} : evS (.asg (.ac cs b f) e) Γ M = vS (ev e Γ M) Γ fun d M => asgAt (.ac cs b f) d Γ M := (rfl)
@[simp] theorem evS_t {ts : Ats} : evS (.asg (.t ts) e) Γ M = vS (ev e Γ M) Γ fun d M => match d with
    | .tup ds => if ds.length = ts.len then asgAts ts ds Γ M else .stuck
    | _ => .stuck := (rfl)
@[simp] theorem evS_par {ts : Ats} {es : Exs} : evS (.par ts es) Γ M = vS (evs es Γ M) Γ fun ds M => asgAts ts ds Γ M := (rfl)
@[simp] theorem evS_ex : evS (.ex e) Γ M = vS (ev e Γ M) Γ fun _ M => .next Γ M := (rfl)
@[simp] theorem evS_ite : evS (.ite c p q) Γ M = vS (ev c Γ M) Γ fun d M => vS (asBool d M) Γ fun t M => if t = true then evSs p Γ M else evSs q Γ M := (rfl)
@[simp] theorem evS_ret : evS (.ret e) Γ M = vS (ev e (freeze Γ) M) (freeze Γ) fun d M => .ret d M := (rfl)
@[simp] theorem evS_pass : evS .pass Γ M = .next Γ M := (rfl)
@[simp] theorem evS_die : evS .die Γ M = .stuck := (rfl)
@[simp] theorem evS_raise : evS (.raise e) Γ M = vS (ev e Γ M) Γ fun d M => .err d Γ M := (rfl)
@[simp] theorem evS_brk : evS .brk Γ M = .brk Γ M := (rfl)
@[simp] theorem evS_cont : evS .cont Γ M = .cont Γ M := (rfl)
@[simp] theorem evS_move {j : Nat} : evS (.move i j) Γ M = match slotAt Γ j with
    | .own (.dict _ _) => .stuck
    | .own d => .next (setN (setN Γ j d) i d) M
    | .val d => .next (setN Γ i d) M
    | _ => .stuck := (rfl)
@[simp] theorem evS_meth {g : OwnM} {as : Exs} : evS (.meth i g as) Γ M = match slotAt Γ i with
    | .own (.lst xs) => vS (evs as Γ M) Γ fun ds M => match g (.lst xs) ds with
      | some (_, y) => .next (setO Γ i y) M
      | none => .stuck
    | _ => .stuck := (rfl)
/-- a turn of a loop -/
def turn (tg : Tg) (b : Sms) (x : D) (Γ : Env) (M : Mem) : RS := match asgTg tg x Γ with
  | none => .stuck
  | some Γ => evSs b Γ M
/-- what is walked -/
def forS (tg : Tg) (b : Sms) (d : D) (Γ : Env) (M : Mem) : RS := match items d with
  | none => .stuck
  | some ds => forL (turn tg b) ds Γ M
@[simp] theorem evS_for : evS (.for_ tg e p) Γ M = vS (ev e Γ M) Γ fun d M => forS tg p d Γ M := (rfl)
/-- a turn of a comprehension -/
def turn1 (own : List Nat) (tg : Tg) (c el : Ex) (Γ : Env) (x : D) (M : Mem) : Res (List D) := match asgTg tg x (wipeE Γ own) with
  | none => .stuck
  | some Γ1 => bnd (ev c Γ1 M) fun b M => bnd (asBool b M) fun t M => if t = true then bnd (ev el Γ1 M) fun y M => .ok [y] M else .ok [] M
def compS (own : List Nat) (tg : Tg) (c el : Ex) (d : D) (Γ : Env) (M : Mem) : Res D := match items d with
  | none => .stuck
  | some ds => noErr (bnd (compL (turn1 own tg c el Γ) ds M) fun ys M => .ok (.lst ys) M)
@[simp] theorem ev_comp {own : List Nat} {it el : Ex} : ev (.comp own tg it c el) Γ M = bnd (ev it Γ M) fun d M => compS own tg c el d Γ M := (rfl)
def turn2 (own : List Nat) (tg : Tg) (c : Ex) (own2 : List Nat) (tg2 : Tg) (it2 c2 el : Ex) (Γ : Env) (x : D) (M : Mem) : Res (List D) := match asgTg tg x (wipeE Γ own) with
  | none => .stuck
  | some Γ1 => bnd (ev c Γ1 M) fun b M => bnd (asBool b M) fun t M => if t = true then
      bnd (ev it2 Γ1 M) fun d2 M => match items d2 with
        | none => .stuck
        | some ds2 => compL (turn1 own2 tg2 c2 el Γ1) ds2 M
    else .ok [] M
def compS2 (own : List Nat) (tg : Tg) (c : Ex) (own2 : List Nat) (tg2 : Tg) (it2 c2 el : Ex) (d : D) (Γ : Env) (M : Mem) : Res D := match items d with
  | none => .stuck
  | some ds => noErr (bnd (compL (turn2 own tg c own2 tg2 it2 c2 el Γ) ds M) fun ys M => if ys.length ≤ 1000000 then .ok (.lst ys) M else .stuck)
@[simp] theorem ev_comp2 {own own2 : List Nat} {it it2 c2 el : Ex} {tg2 : Tg} : ev (.comp2 own tg it c own2 tg2 it2 c2 el) Γ M = bnd (ev it Γ M) fun d M => compS2 own tg c own2 tg2 it2 c2 el d Γ M := (rfl)
def turnK (own : List Nat) (tg : Tg) (c k v : Ex) (Γ : Env) (x : D) (M : Mem) : Res (List D) := match asgTg tg x (wipeE Γ own) with
  | none => .stuck
  | some Γ1 => bnd (ev c Γ1 M) fun b M => bnd (asBool b M) fun t M => if t = true then bnd (ev k Γ1 M) fun y M => if isKey y = true then bnd (ev v Γ1 M) fun z M => .ok [.tup [y, z]] M else .stuck else .ok [] M
def compK (own : List Nat) (tg : Tg) (c k v : Ex) (d : D) (Γ : Env) (M : Mem) : Res D := match items d with
  | none => .stuck
  | some ds => noErr (bnd (compL (turnK own tg c k v Γ) ds M) fun ys M => .ok (.dict (ys.foldl putPair ([], [])).1 (ys.foldl putPair ([], [])).2) M)
@[simp] theorem ev_dcomp {own : List Nat} {it k v : Ex} : ev (.dcomp own tg it c k v) Γ M = bnd (ev it Γ M) fun d M => compK own tg c k v d Γ M := (rfl)
end
@[simp] theorem wp_noErr {α : Type} {x : Res α} {Q : α → Mem → Prop} : wp (noErr x) Q ↔ wp x Q := by cases x <;> exact Iff.rfl
theorem wp_asBool {d : D} {M : Mem} {Q : Bool → Mem → Prop} : wp (asBool d M) Q ↔ ∃ b, d = .bl b ∧ Q b M := by
  cases d <;> simp [asBool]

/-- a loop by its invariant (turn, names, memory); a turn may return -/
theorem for_inv {f : D → Env → Mem → RS} {N : Env → Mem → Prop} {Rt : D → Mem → Prop} (I : Nat → Env → Mem → Prop) : ∀ (xs : List D) (k : Nat) (Γ : Env) (M : Mem), I k Γ M →
    (∀ j x Γ M, xs[j]? = some x → I (k + j) Γ M → wpS (f x Γ M) (fun Γ' M' => Hold (I (k + j + 1) Γ' M')) Rt) → (∀ Γ M, I (k + xs.length) Γ M → N Γ M) → wpS (forL f xs Γ M) N Rt
  | [], k, Γ, M, h, _, e => e Γ M h
  | x :: xs, k, Γ, M, h, st, e => by
    have h1 := st 0 x Γ M rfl h
    have rest : ∀ Γ' M', I (k + 1) Γ' M' → wpS (forL f xs Γ' M') N Rt := fun Γ' M' h' =>
      for_inv I xs (k + 1) Γ' M' h' (fun j y Γ2 M2 hj hI => by
        have := st (j + 1) y Γ2 M2 (by simpa using hj) (by rwa [show k + (j + 1) = k + 1 + j by omega])
        rwa [show k + (j + 1) + 1 = k + 1 + j + 1 by omega] at this) fun Γ2 M2 h2 => e Γ2 M2 (by rwa [List.length_cons, show k + (xs.length + 1) = k + 1 + xs.length by omega])
    show wpS (match f x Γ M with
      | .next Γ M => forL f xs Γ M
      | .cont Γ M => forL f xs Γ M
      | .brk Γ M => .next Γ M
      | r => r) N Rt
    cases q : f x Γ M with
    | next Γ' M' => rw [q] at h1; exact rest Γ' M' h1
    | ret d M' => rw [q] at h1; exact h1
    | _ => rw [q] at h1; exact h1.elim
/-- .. the list's items are of one form -/
theorem for_map {α : Type} {g : α → D} {f : D → Env → Mem → RS} {N : Env → Mem → Prop} {Rt : D → Mem → Prop} (I : Nat → Env → Mem → Prop) (xs : List α) (Γ : Env) (M : Mem) (h0 : I 0 Γ M)
    (h : ∀ j x Γ M, xs[j]? = some x → I j Γ M → wpS (f (g x) Γ M) (fun Γ' M' => Hold (I (j + 1) Γ' M')) Rt) (he : ∀ Γ M, I xs.length Γ M → N Γ M) : wpS (forL f (xs.map g) Γ M) N Rt :=
  for_inv I (xs.map g) 0 Γ M h0 (fun j x Γ M hj hI => by
    rw [List.getElem?_map] at hj
    cases q : xs[j]? with
    | none => rw [q] at hj; cases hj
    | some y =>
      rw [q] at hj
      cases hj
      rw [Nat.zero_add] at hI ⊢
      exact h j y Γ M q hI) (fun Γ M hI => he Γ M (by simpa using hI))
/-- a comprehension whose turns change nothing -/
theorem comp_pure {α : Type} {g : α → D} {f : D → Mem → Res (List D)} (y : α → List D) (M : Mem) : ∀ xs : List α, (∀ x ∈ xs, f (g x) M = .ok (y x) M) → compL f (xs.map g) M = .ok (xs.flatMap y) M
  | [], _ => rfl
  | x :: xs, h => by
    show bnd (f (g x) M) (fun ys M => bnd (compL f (xs.map g) M) fun zs M => .ok (ys ++ zs) M) = _
    rw [h x List.mem_cons_self, bnd_ok, comp_pure y M xs fun z hz => h z (List.mem_cons_of_mem _ hz), bnd_ok]
    rfl
/-- names' slots -/
@[simp] theorem slot0 {s : Slot} {Γ : Env} : slotAt (s :: Γ) 0 = s := (rfl)
@[simp] theorem slotS {s : Slot} {Γ : Env} {n : Nat} : slotAt (s :: Γ) (n + 1) = slotAt Γ n := (rfl)
@[simp] theorem setN0 {s : Slot} {Γ : Env} {d : D} : setN (s :: Γ) 0 d = .val d :: Γ := (rfl)
@[simp] theorem setNS {s : Slot} {Γ : Env} {n : Nat} {d : D} : setN (s :: Γ) (n + 1) d = s :: setN Γ n d := (rfl)
@[simp] theorem setO0 {s : Slot} {Γ : Env} {d : D} : setO (s :: Γ) 0 d = .own d :: Γ := (rfl)
@[simp] theorem setOS {s : Slot} {Γ : Env} {n : Nat} {d : D} : setO (s :: Γ) (n + 1) d = s :: setO Γ n d := (rfl)
end Pk

set_option Elab.async false
set_option linter.all false
set_option autoImplicit false
set_option maxRecDepth 100000
set_option maxHeartbeats 1000000
/-! Plain2: operators and built-ins on data of known form. -/
namespace Pk
section
variable {Γ : Env} {M : Mem} {T : Tab} {a b i j : Int} {s t : Cs} {xs ys ds : List D} {x y d : D} {p q : Bool}
@[simp] theorem vAt_def {n : Nat} : vAt Γ n M = match (slotAt Γ n).get with
  | some d => .ok d M
  | none => .stuck := (rfl)
@[simp] theorem vvAt_def {n : Nat} : vvAt Γ n M = match slotAt Γ n with
  | .val d => .ok d M
  | _ => .stuck := (rfl)
@[simp] theorem get_val : (Slot.val d).get = some d := (rfl)
@[simp] theorem get_own : (Slot.own d).get = some d := (rfl)
@[simp] theorem freeze_nil : freeze [] = [] := (rfl)
@[simp] theorem freeze_cons {s : Slot} : freeze (s :: Γ) = s.thaw :: freeze Γ := (rfl)
@[simp] theorem thaw_val : (Slot.val d).thaw = .val d := (rfl)
@[simp] theorem thaw_no : Slot.no.thaw = .no := (rfl)
@[simp] theorem thaw_lst : (Slot.own (.lst xs)).thaw = .val (.lst xs) := (rfl)
@[simp] theorem wipe_nil : wipeE Γ [] = Γ := (rfl)
@[simp] theorem wipe_cons {n : Nat} {is : List Nat} : wipeE Γ (n :: is) = (wipeE Γ is).set n .no := (rfl)
@[simp] theorem asgTg_n {n : Nat} : asgTg (.n n) d Γ = some (setN Γ n d) := (rfl)
@[simp] theorem asgTg_t {is : List Nat} : asgTg (.t is) (.tup ds) Γ = setNs Γ is ds := (rfl)
@[simp] theorem setNs_nil : setNs Γ [] [] = some Γ := (rfl)
@[simp] theorem setNs_cons {n : Nat} {is : List Nat} : setNs Γ (n :: is) (d :: ds) = setNs (setN Γ n d) is ds := (rfl)
@[simp] theorem asgAts_nil : asgAts .nil [] Γ M = .next Γ M := (rfl)
@[simp] theorem asgAts_cons {A : At} {r : Ats} : asgAts (.cons A r) (d :: ds) Γ M = match asgAt A d Γ M with
    | .next Γ M => asgAts r ds Γ M
    | x => x := (rfl)
@[simp] theorem asgAt_n {n : Nat} : asgAt (.n n) d Γ M = .next (setN Γ n d) M := (rfl)
@[simp] theorem asgAt_o {n : Nat} : asgAt (.o n) d Γ M = .next (setO Γ n d) M := (rfl)
@[simp] theorem len_nil : Ats.nil.len = 0 := (rfl)
@[simp] theorem len_cons {A : At} {r : Ats} : (Ats.cons A r).len = r.len + 1 := (rfl)
@[simp] theorem items_lst : items (.lst xs) = some xs := (rfl)
@[simp] theorem items_tup : items (.tup xs) = some xs := (rfl)
@[simp] theorem items_dict {ks vs : List D} : items (.dict ks vs) = some ks := (rfl)
@[simp] theorem Exs_app_nil {r : Exs} : Exs.app .nil r = r := (rfl)
@[simp] theorem Exs_app_cons {e : Ex} {u r : Exs} : Exs.app (.cons e u) r = .cons e (Exs.app u r) := (rfl)
@[simp] theorem atsOf_nil {l : List Nat} : atsOf [] l = .nil := by cases l <;> rfl
@[simp] theorem atsOf_f {fl : List Bool} {n : Nat} {l : List Nat} : atsOf (false :: fl) (n :: l) = .cons (.n n) (atsOf fl l) := (rfl)
@[simp] theorem atsOf_t {fl : List Bool} {n : Nat} {l : List Nat} : atsOf (true :: fl) (n :: l) = .cons (.o n) (atsOf fl l) := (rfl)
@[simp] theorem add_int : pAdd T [.int a, .int b] M = .ok (.int (a + b)) M := (rfl)
@[simp] theorem add_lst : pAdd T [.lst xs, .lst ys] M = if xs.length + ys.length ≤ lim then .ok (.lst (xs ++ ys)) M else .stuck := (rfl)
@[simp] theorem add_tup : pAdd T [.tup xs, .tup ys] M = if xs.length + ys.length ≤ lim then .ok (.tup (xs ++ ys)) M else .stuck := (rfl)
@[simp] theorem add_str : pAdd T [.str s, .str t] M = if s.length + t.length ≤ lim then .ok (.str (s ++ t)) M else .stuck := (rfl)
@[simp] theorem sub_int : pSub T [.int a, .int b] M = .ok (.int (a - b)) M := (rfl)
theorem mul_int : pMul [.int a, .int b] M = if a.natAbs < 2 ^ 64 ∨ b.natAbs < 2 ^ 64 then .ok (.int (a * b)) M else .stuck := (rfl)
theorem mul_l (h1 : -(2 ^ 64) < a) (h2 : a < 2 ^ 64) : pMul [.int a, .int b] M = .ok (.int (a * b)) M := by rw [mul_int, if_pos (.inl (by omega))]
theorem mul_r (h1 : -(2 ^ 64) < b) (h2 : b < 2 ^ 64) : pMul [.int a, .int b] M = .ok (.int (a * b)) M := by rw [mul_int, if_pos (.inr (by omega))]
@[simp] theorem div_int : pDiv [.int a, .int b] M = if 0 < b ∧ b.toNat < 2 ^ 256 then .ok (.int (a / b)) M else .stuck := (rfl)
@[simp] theorem mod_int : pMod [.int a, .int b] M = if 0 < b then .ok (.int (a % b)) M else .stuck := (rfl)
@[simp] theorem neg_int : pNeg [.int a] M = .ok (.int (-a)) M := (rfl)
@[simp] theorem lt_int : pLt [.int a, .int b] M = .ok (.bl (decide (a < b))) M := (rfl)
@[simp] theorem le_int : pLe [.int a, .int b] M = .ok (.bl (decide (a ≤ b))) M := (rfl)
@[simp] theorem gt_int : pGt [.int a, .int b] M = .ok (.bl (decide (b < a))) M := (rfl)
@[simp] theorem ge_int : pGe [.int a, .int b] M = .ok (.bl (decide (b ≤ a))) M := (rfl)
@[simp] theorem cmp_int : cmp (.int a) (.int b) = some (decide (a = b)) := by
  simp [cmp, pl, eqD]
@[simp] theorem eq_int : pEq T [.int a, .int b] M = .ok (.bl (decide (a = b))) M := by
  show optB (cmp (.int a) (.int b)) M = _
  rw [cmp_int]; rfl
@[simp] theorem isN_def : pIsN [x, .non] M = .ok (.bl (isNonD x)) M := (rfl)
@[simp] theorem notN_def : pNotN [x, .non] M = .ok (.bl (!isNonD x)) M := (rfl)
@[simp] theorem isNon_non : isNonD .non = true := (rfl)
@[simp] theorem isNon_int : isNonD (.int a) = false := (rfl)
@[simp] theorem isNon_tup : isNonD (.tup xs) = false := (rfl)
@[simp] theorem ix_lst : pIx [.lst xs, .int a] M = optD (atI xs a) M := (rfl)
@[simp] theorem ix_tup : pIx [.tup xs, .int a] M = optD (atI xs a) M := (rfl)
@[simp] theorem ix_scr : pIx [.scr xs, .int a] M = optD (atI xs a) M := (rfl)
theorem ix_ref {n : Nat} : pIx [.ref n, .int a] M = match M[n]? with
    | some (.lst xs) => optD (atI xs a) M
    | _ => .stuck := (rfl)
@[simp] theorem ix_str : pIx [.str s, .int a] M = if s.length ≤ lim then (match atI s a with
    | some c => .ok (.str [c]) M
    | none => .stuck) else .stuck := (rfl)
@[simp] theorem ix_dict {ks vs : List D} {k : D} : pIx [.dict ks vs, k] M = if isKey k = true then optD (dictGet k ks vs) M else .stuck := by
  cases k <;> rfl
@[simp] theorem optD_some : optD (some d) M = .ok d M := (rfl)
@[simp] theorem optB_some : optB (some p) M = .ok (.bl p) M := (rfl)
@[simp] theorem pi_int : pI [.int a] M = .ok (.int a) M := (rfl)
@[simp] theorem ps_str : pS [.str s] M = .ok (.str s) M := (rfl)
@[simp] theorem sl_00 : pSl false false [x] M = optD (cutD x none none) M := (rfl)
@[simp] theorem sl_10 : pSl true false [x, .int a] M = optD (cutD x (some a) none) M := (rfl)
@[simp] theorem sl_01 : pSl false true [x, .int b] M = optD (cutD x none (some b)) M := (rfl)
@[simp] theorem sl_11 : pSl true true [x, .int a, .int b] M = optD (cutD x (some a) (some b)) M := (rfl)
@[simp] theorem cutD_lst {l h : Option Int} : cutD (.lst xs) l h = some (.lst (cut xs l h)) := (rfl)
@[simp] theorem cutD_scr {l h : Option Int} : cutD (.scr xs) l h = some (.lst (cut xs l h)) := (rfl)
@[simp] theorem cutD_tup {l h : Option Int} : cutD (.tup xs) l h = some (.tup (cut xs l h)) := (rfl)
@[simp] theorem tup_def : pTup ds M = .ok (.tup ds) M := (rfl)
@[simp] theorem lst_def : pLst ds M = .ok (.lst ds) M := (rfl)
@[simp] theorem cell_def : pCell ds M = .ok (.ref M.length) (M ++ [.lst ds]) := (rfl)
@[simp] theorem len_lst : pLen T [.lst xs] M = .ok (.int xs.length) M := (rfl)
@[simp] theorem len_tup : pLen T [.tup xs] M = .ok (.int xs.length) M := (rfl)
@[simp] theorem len_scr : pLen T [.scr xs] M = .ok (.int xs.length) M := (rfl)
@[simp] theorem len_str : pLen T [.str s] M = if s.length ≤ lim then .ok (.int s.length) M else .stuck := (rfl)
@[simp] theorem len_dict {ks vs : List D} : pLen T [.dict ks vs] M = .ok (.int ks.length) M := (rfl)
@[simp] theorem int_int : pInt [.int a] M = .ok (.int a) M := (rfl)
@[simp] theorem int_bl : pInt [.bl p] M = .ok (.int (if p = true then 1 else 0)) M := (rfl)
@[simp] theorem abs_int : pAbs [.int a] M = .ok (.int (if a < 0 then -a else a)) M := (rfl)
@[simp] theorem max2_int : pMax2 [.int a, .int b] M = .ok (.int (max a b)) M := (rfl)
@[simp] theorem min2_int : pMin2 [.int a, .int b] M = .ok (.int (min a b)) M := (rfl)
@[simp] theorem divmod_int : pDivmod [.int a, .int b] M = if 0 < b ∧ b.toNat < 2 ^ 256 then .ok (.tup [.int (a / b), .int (a % b)]) M else .stuck := (rfl)
@[simp] theorem tuple_lst : pTuple [.lst xs] M = .ok (.tup xs) M := (rfl)
@[simp] theorem tuple_tup : pTuple [.tup xs] M = .ok (.tup xs) M := (rfl)
@[simp] theorem list_lst : pList [.lst xs] M = .ok (.lst xs) M := (rfl)
@[simp] theorem list_tup : pList [.tup xs] M = .ok (.lst xs) M := (rfl)
@[simp] theorem seq_lst : pSeq [.lst xs] M = .ok (.lst xs) M := (rfl)
@[simp] theorem seq_tup : pSeq [.tup xs] M = .ok (.tup xs) M := (rfl)
@[simp] theorem enum_lst : pEnum [.lst xs] M = .ok (.lst (enumL 0 xs)) M := (rfl)
@[simp] theorem enum_tup : pEnum [.tup xs] M = .ok (.lst (enumL 0 xs)) M := (rfl)
@[simp] theorem str_int : pStrI [.int a] M = if fitsI a = true then .ok (.str (intCs a)) M else .stuck := (rfl)
@[simp] theorem isi_def {S : String} : pIsinst S [x] M = optB (isB S x) M := (rfl)
theorem pow_int : pPow [.int a, .int b] M = if 0 ≤ b ∧ b.toNat ≤ 1000 ∧ a.natAbs < 2 ^ 64 then .ok (.int (a ^ b.toNat)) M else .stuck := (rfl)
@[simp] theorem pow_18 : pPow [.int 10, .int 18] M = .ok (.int 1000000000000000000) M := (rfl)
@[simp] theorem pow_15 : pPow [.int 10, .int 15] M = .ok (.int 1000000000000000) M := (rfl)
@[simp] theorem pow_30 : pPow [.int 10, .int 30] M = .ok (.int 1000000000000000000000000000000) M := (rfl)
@[simp] theorem pow_7 : pPow [.int 10, .int 7] M = .ok (.int 10000000) M := (rfl)
@[simp] theorem pow_14 : pPow [.int 10, .int 14] M = .ok (.int 100000000000000) M := (rfl)
@[simp] theorem range_1 : pRange [.int a] M = if a.natAbs ≤ lim then .ok (.lst (rangeL 0 a.toNat)) M else .stuck := (rfl)
@[simp] theorem meth_app : mAppend (.lst xs) [y] = if xs.length < lim then some (.non, .lst (xs ++ [y])) else none := (rfl)
@[simp] theorem meth_ins : mInsert (.lst xs) [.int a, y] = if xs.length < lim ∧ 0 ≤ a ∧ a.toNat < 2 ^ 60 then some (.non, .lst (insAt xs a y)) else none := (rfl)
end
/-- a cell is written -/
def scS (r k d : D) (Γ : Env) (M : Mem) : RS := match r with
  | .ref a => match M[a]? with
    | some c => match cellSet c k d with
      | some c' => .next Γ (M.set a c')
      | none => .stuck
    | none => .stuck
  | _ => .stuck
section
variable {Γ : Env} {M : Mem} {d x y z : D} {b ix : Ex} {N : Env → Mem → Prop} {Rt : D → Mem → Prop} {n : Nat} {i : Int} {xs : List D} {α : Type} {u v w : α} {us : List α}
@[simp] theorem asgAt_sc : asgAt (.sc b ix) d Γ M = vS (ev b Γ M) Γ fun r M => vS (ev ix Γ M) Γ fun k M => scS r k d Γ M := (rfl)
theorem scS_at (h : M[n]? = some (.lst xs)) : scS (.ref n) (.int i) d Γ M = match ixN xs.length i with
    | some j => .next Γ (M.set n (.lst (xs.set j d)))
    | none => .stuck := by
  unfold scS
  simp only [h, cellSet]
  cases ixN xs.length i <;> rfl
theorem ix_at (h : M[n]? = some (.lst xs)) : pIx [.ref n, .int i] M = optD (atI xs i) M := by
  rw [ix_ref, h]
@[simp] theorem ix_set (h : n < M.length) : pIx [.ref n, .int i] (M.set n (.lst xs)) = optD (atI xs i) (M.set n (.lst xs)) := ix_at (by simp [h])
@[simp] theorem scS_set (h : n < M.length) : scS (.ref n) (.int i) d Γ (M.set n (.lst xs)) = match ixN xs.length i with
    | some j => .next Γ (M.set n (.lst (xs.set j d)))
    | none => .stuck := by
  rw [scS_at (xs := xs) (by simp [h])]
  cases ixN xs.length i <;> simp
@[simp] theorem ixN0 {m : Nat} : ixN (m + 1) 0 = some 0 := by unfold ixN; rw [if_pos (by omega), if_pos (by omega)]; rfl
@[simp] theorem ixN1 {m : Nat} : ixN (m + 2) 1 = some 1 := by unfold ixN; rw [if_pos (by omega), if_pos (by omega)]; rfl
@[simp] theorem ixN2 {m : Nat} : ixN (m + 3) 2 = some 2 := by unfold ixN; rw [if_pos (by omega), if_pos (by omega)]; rfl
@[simp] theorem at0 : atI (u :: us) 0 = some u := by
  unfold atI ixN
  rw [if_pos (by omega), if_pos (by simp)]
  rfl
@[simp] theorem at1 : atI (u :: v :: us) 1 = some v := by
  unfold atI ixN
  rw [if_pos (by omega), if_pos (by simp; omega)]
  rfl
@[simp] theorem at2 : atI (u :: v :: w :: us) 2 = some w := by
  unfold atI ixN
  rw [if_pos (by omega), if_pos (by simp; omega)]
  rfl
end
/-- range as a map -/
theorem rangeL_map (lo : Int) : ∀ n : Nat, rangeL lo n = (List.range n).map fun k : Nat => D.int (lo + (k : Int))
  | 0 => rfl
  | n + 1 => by
    rw [List.range_succ_eq_map, List.map_cons, List.map_map]
    show D.int lo :: rangeL (lo + 1) n = _
    rw [rangeL_map (lo + 1) n]
    congr 1
    · simp
    · apply List.map_congr_left
      intro k _
      show D.int (lo + 1 + k) = D.int (lo + ((k + 1 : Nat) : Int))
      congr 1
      omega
theorem atI_nat {α : Type} {xs : List α} {k : Nat} : atI xs (k : Int) = xs[k]? := by
  unfold atI ixN
  rw [if_pos (by omega)]
  by_cases h : k < xs.length
  · rw [if_pos (by omega)]; simp
  · rw [if_neg (by omega), List.getElem?_eq_none (by omega)]
theorem atI_of {α : Type} {xs : List α} {a : Int} (h : 0 ≤ a) : atI xs a = xs[a.toNat]? := by
  obtain ⟨k, rfl⟩ := Int.eq_ofNat_of_zero_le h
  exact atI_nat
/-! ### step by step -/
section
variable {Γ : Env} {M : Mem} {i : Nat} {e : Ex} {s : Sm} {r b : Sms} {N : Env → Mem → Prop} {Rt : D → Mem → Prop} {ds : List D} {Q : D → Mem → Prop}
theorem fn_wp {ps n : Nat} (h : ds.length = ps) (k : wpS (evSs b (start0 n ds) M) (fun _ M => Q .non M) Q) : wp (fnSem ps n b ds M) Q := by
  rw [fn_eq, if_pos h, wp_end]; exact k
theorem go_n (P : D → Mem → Prop) (h : wp (ev e Γ M) fun d M => Hold (P d M)) (k : ∀ d M', P d M' → wpS (evSs r (setN Γ i d) M') N Rt) : wpS (evSs (.cons (.asg (.n i) e) r) Γ M) N Rt := by
  rw [evSs_cons, wpS_seq, evS_n, wpS_vS]
  exact h.mono fun d M' p => k d M' p
theorem go (k : wpS (evS s Γ M) (fun Γ M => wpS (evSs r Γ M) N Rt) Rt) : wpS (evSs (.cons s r) Γ M) N Rt := by
  rw [evSs_cons, wpS_seq]; exact k
theorem go_mid (P : Env → Mem → Prop) (h : wpS (evS s Γ M) (fun Γ M => Hold (P Γ M)) Rt) (k : ∀ Γ M, P Γ M → wpS (evSs r Γ M) N Rt) : wpS (evSs (.cons s r) Γ M) N Rt := by
  rw [evSs_cons, wpS_seq]
  exact h.mono k fun _ _ h => h
theorem go_for {tg : Tg} (P : D → Mem → Prop) (h : wp (ev e Γ M) fun d M => Hold (P d M)) (k : ∀ d M', P d M' → wpS (forS tg b d Γ M') (fun Γ M => wpS (evSs r Γ M) N Rt) Rt) : wpS (evSs (.cons (.for_ tg e b) r) Γ M) N Rt := by
  rw [evSs_cons, wpS_seq, evS_for, wpS_vS]
  exact h.mono fun d M' p => k d M' p
theorem go_ret (h : wp (ev e (freeze Γ) M) Rt) : wpS (evSs (.cons (.ret e) r) Γ M) N Rt := by
  rw [evSs_cons, wpS_seq, evS_ret, wpS_vS]
  exact h.mono fun d M' p => p
end
/-! ### comprehensions -/
section
variable {α : Type} {g : α → D} {own : List Nat} {tg : Tg} {c el : Ex} {Γ : Env} {M : Mem} {d : D} {xs : List α}
theorem compS_pure (y : α → List D) (hd : items d = some (xs.map g)) (h : ∀ x ∈ xs, turn1 own tg c el Γ (g x) M = .ok (y x) M) : compS own tg c el d Γ M = .ok (.lst (xs.flatMap y)) M := by
  unfold compS
  rw [hd]
  show noErr (bnd (compL (turn1 own tg c el Γ) (xs.map g) M) _) = _
  rw [comp_pure y M xs h]
  rfl
theorem flatMap_one {β : Type} (f : α → β) : ∀ xs : List α, xs.flatMap (fun x => [f x]) = xs.map f
  | [] => rfl
  | x :: xs => by rw [List.flatMap_cons, flatMap_one f xs]; rfl
theorem flatMap_if {β : Type} (p : α → Bool) (f : α → β) : ∀ xs : List α, xs.flatMap (fun x => if p x = true then [f x] else []) = (xs.filter p).map f
  | [] => rfl
  | x :: xs => by
    rw [List.flatMap_cons, flatMap_if p f xs, List.filter_cons]
    cases p x <;> rfl
theorem compS_map (f : α → D) (hd : items d = some (xs.map g)) (h : ∀ x ∈ xs, turn1 own tg c el Γ (g x) M = .ok [f x] M) : compS own tg c el d Γ M = .ok (.lst (xs.map f)) M := by
  rw [compS_pure (fun x => [f x]) hd h, flatMap_one]
theorem compS_filter (p : α → Bool) (f : α → D) (hd : items d = some (xs.map g)) (h : ∀ x ∈ xs, turn1 own tg c el Γ (g x) M = .ok (if p x = true then [f x] else []) M) : compS own tg c el d Γ M = .ok (.lst ((xs.filter p).map f)) M := by
  rw [compS_pure (fun x => if p x = true then [f x] else []) hd h, flatMap_if]
end
theorem erase_sub {α : Type} [DecidableEq α] : ∀ {xs ys : List α}, xs.Nodup → (∀ x ∈ xs, x ∈ ys) → xs.length ≤ ys.length
  | [], _, _, _ => Nat.zero_le _
  | x :: xs, ys, h, s => by
    have h := List.nodup_cons.mp h
    have hx : x ∈ ys := s x List.mem_cons_self
    have := erase_sub (xs := xs) (ys := ys.erase x) h.2 fun z hz => (List.mem_erase_of_ne (fun e : z = x => h.1 (e ▸ hz))).mpr (s z (List.mem_cons_of_mem _ hz))
    rw [List.length_erase_of_mem hx] at this
    have := List.length_pos_of_mem hx
    simp
    omega
/-! ### membership -/
theorem inL_map {α : Type} [DecidableEq α] {g : α → D} {l : List α} {x : α} (hx : pl 8 (g x) = true) (hl : ∀ y ∈ l, pl 8 (g y) = true) (he : ∀ a b, eqD (g a) (g b) = decide (a = b)) : inL (g x) (l.map g) = some (decide (x ∈ l)) := by
  unfold inL
  have h1 : (pl 8 (g x) && (l.map g).all (pl 8)) = true := by
    rw [hx, Bool.true_and, List.all_eq_true]
    intro d hd
    obtain ⟨y, hy, rfl⟩ := List.mem_map.mp hd
    exact hl y hy
  rw [if_pos h1]
  congr 1
  induction l with
  | nil => simp
  | cons y l ih =>
    rw [List.map_cons, List.any_cons, ih (fun z hz => hl z (List.mem_cons_of_mem _ hz)) (by
      rw [hx, Bool.true_and, List.all_eq_true]
      intro d hd
      obtain ⟨z, hz, rfl⟩ := List.mem_map.mp hd
      exact hl z (List.mem_cons_of_mem _ hz)), he]
    by_cases h : y = x
    · subst h; simp
    · have : x ≠ y := fun e => h e.symm
      simp [h, this]
/-- signs of a text -/
def okC (s : Cs) : Bool := s.all fun c => decide (c < 1114112)
theorem pl_str {n : Nat} {s : Cs} : pl n (.str s) = okC s := by cases n <;> rfl
theorem eq_str' (s t : Cs) : eqD (.str s) (.str t) = decide (s = t) := (rfl)
theorem in_lst {T : Tab} {M : Mem} {x : D} {ys : List D} : pIn T [x, .lst ys] M = optB (inL x ys) M := by
  cases x <;> rfl
theorem in_tup {T : Tab} {M : Mem} {x : D} {ys : List D} : pIn T [x, .tup ys] M = optB (inL x ys) M := by
  cases x <;> rfl
theorem in_strs {w : Cs} {l : List Cs} (hw : okC w = true) (hl : ∀ s ∈ l, okC s = true) : inL (.str w) (l.map .str) = some (decide (w ∈ l)) := by
  rw [inL_map (g := D.str) (by rw [pl_str]; exact hw) (fun y hy => by rw [pl_str]; exact hl y hy) eq_str']
  congr
theorem notIn_def {T : Tab} {M : Mem} {x y : D} : pNotIn T [x, y] M = negB (pIn T [x, y] M) := (rfl)
@[simp] theorem neg_ok {b : Bool} {M : Mem} : negB (.ok (.bl b) M) = .ok (.bl (!b)) M := (rfl)
/-- a value, the memory as it was -/
def isV (P : D → Prop) (M : Mem) : D → Mem → Prop := fun d M' => M' = M ∧ P d
end Pk

set_option Elab.async false
set_option linter.all false
set_option autoImplicit false
set_option maxRecDepth 100000
set_option maxHeartbeats 4000000
namespace Pk
noncomputable section
def sub_Rule : String → Option Bool := fun c => if c = "Rule" then some true else none
def ir__law_purse : Sms := .cons (.asg (.n 2) (.ite (.app (pLt) (.cons (.var 1) (.cons (.app (pLen tab0) (.cons (.var 0) .nil)) .nil))) (.app (pIx) (.cons (.var 0) (.cons (.var 1) .nil))) (.const (.int 0)))) (.cons (.asg (.n 3) (.app (pAdd tab0) (.cons (.const (.int 15485863)) (.cons (.app (pMul) (.cons (.const (.int 32452843)) (.cons (.var 1) .nil))) .nil)))) (.cons (.for_ (.n 4) (.app (pAdd tab0) (.cons (.app (pSl false true) (.cons (.var 0) (.cons (.const (.int 4)) .nil))) (.cons (.app pLst (.cons (.var 2) .nil)) .nil))) (.cons (.asg (.n 3) (.app (pAdd tab0) (.cons (.app (pMul) (.cons (.var 3) (.cons (.const (.int 6364136223846793005)) .nil))) (.cons (.app (pMod) (.cons (.app (pInt) (.cons (.var 4) .nil)) (.cons (.const (.int 2305843009213693907)) .nil))) .nil)))) (.cons (.asg (.n 3) (.app (pMod) (.cons (.app (pInt) (.cons (.app (pAdd tab0) (.cons (.var 3) (.cons (.const (.int 17)) .nil))) .nil)) (.cons (.const (.int 2305843009213693951)) .nil)))) (.nil)))) (.cons (.ret (.app pCell (.cons (.var 3) (.cons (.ite (.app (pGe) (.cons (.app (pAbs) (.cons (.var 2) .nil)) (.cons (.app (pPow) (.cons (.const (.int 10)) (.cons (.const (.int 18)) .nil))) .nil))) (.app (pAbs) (.cons (.var 2) .nil)) (.const (.int 0))) (.cons (.const (.int 0)) .nil))))) (.nil))))
def F__law_purse : Fn := fnSem 2 5 ir__law_purse
def ir__law_draw : Sms := .cons (.ite (.app (pGt) (.cons (.app (pIx) (.cons (.var 0) (.cons (.const (.int 1)) .nil))) (.cons (.const (.int 0)) .nil))) (.cons (.asg (.t (.cons (.sc (.var 0) (.const (.int 1))) (.cons (.n 2) (.nil)))) (.app (pDivmod) (.cons (.app (pIx) (.cons (.var 0) (.cons (.const (.int 1)) .nil))) (.cons (.var 1) .nil)))) (.cons (.ret (.var 2)) (.nil))) (.nil)) (.cons (.asg (.sc (.var 0) (.const (.int 2))) (.app (pAdd tab0) (.cons (.app (pIx) (.cons (.var 0) (.cons (.const (.int 2)) .nil))) (.cons (.const (.int 1)) .nil)))) (.cons (.asg (.n 3) (.app (pAdd tab0) (.cons (.app (pAdd tab0) (.cons (.app (pMul) (.cons (.app (pIx) (.cons (.var 0) (.cons (.const (.int 0)) .nil))) (.cons (.const (.int 1442695040888963407)) .nil))) (.cons (.app (pMul) (.cons (.app (pMul) (.cons (.const (.int 7919)) (.cons (.app (pIx) (.cons (.var 0) (.cons (.const (.int 2)) .nil))) .nil))) (.cons (.app (pIx) (.cons (.var 0) (.cons (.const (.int 2)) .nil))) .nil))) .nil))) (.cons (.const (.int 3)) .nil)))) (.cons (.asg (.sc (.var 0) (.const (.int 0))) (.app (pMod) (.cons (.app (pInt) (.cons (.var 3) .nil)) (.cons (.const (.int 2305843009213693951)) .nil)))) (.cons (.ret (.app (pMod) (.cons (.app (pInt) (.cons (.app (pDiv) (.cons (.app (pIx) (.cons (.var 0) (.cons (.const (.int 0)) .nil))) (.cons (.const (.int 1048576)) .nil))) .nil)) (.cons (.var 1) .nil)))) (.nil)))))
def F__law_draw : Fn := fnSem 2 4 ir__law_draw
def ir__law_links : Sms := .cons (.par (atsOf [false, true] [2, 3]) (.cons (.app (pAdd tab0) (.cons (.const (.int 1)) (.cons (.app F__law_draw (.cons (.var 0) (.cons (.const (.int 5)) .nil))) .nil))) (.cons (.app pLst .nil) .nil))) (.cons (.for_ (.n 4) (.app pRange (.cons (.var 1) .nil)) (.cons (.for_ (.n 5) (.app pRange (.cons (.app (pAdd tab0) (.cons (.var 4) (.cons (.const (.int 1)) .nil))) .nil)) (.cons (.ite (.app (pLt) (.cons (.app F__law_draw (.cons (.var 0) (.cons (.ite (.app (pLt) (.cons (.var 5) (.cons (.var 4) .nil))) (.const (.int 6)) (.const (.int 9))) .nil))) (.cons (.var 2) .nil))) (.cons (.asg (.n 6) (.ite (.app (pEq tab0) (.cons (.app F__law_draw (.cons (.var 0) (.cons (.const (.int 2)) .nil))) (.cons (.const (.int 0)) .nil))) (.app pTup (.cons (.var 4) (.cons (.var 5) .nil))) (.app pTup (.cons (.var 5) (.cons (.var 4) .nil))))) (.cons (.meth 3 mInsert (.cons (.app F__law_draw (.cons (.var 0) (.cons (.app (pAdd tab0) (.cons (.app (pLen tab0) (.cons (.var 3) .nil)) (.cons (.const (.int 1)) .nil))) .nil))) (.cons (.var 6) .nil))) (.nil))) (.nil)) (.nil))) (.nil))) (.cons (.ret (.var 3)) (.nil)))
def F__law_links : Fn := fnSem 2 7 ir__law_links
def ir_is_name : Sms := .cons (.ite (.orV (.notV (.app (pIsinst "str") (.cons (.var 0) .nil))) (.notV (.chain (pLe) (pLe) (.const (.int 1)) (.app (pLen tab0) (.cons (.var 0) .nil)) (.const (.int 8))))) (.cons (.ret (.const (.bl false))) (.nil)) (.nil)) (.cons (.ret (.andV (.app (pIn tab0) (.cons (.app (pIx) (.cons (.var 0) (.cons (.const (.int 0)) .nil))) (.cons (.const (.str [97, 98, 99, 100, 101, 102, 103, 104, 105, 106, 107, 108, 109, 110, 111, 112, 113, 114, 115, 116, 117, 118, 119, 120, 121, 122])) .nil))) (.app (pAll) (.cons (.comp [1] (.n 1) (.var 0) (.const (.bl true)) (.orV (.app (pIn tab0) (.cons (.var 1) (.cons (.const (.str [97, 98, 99, 100, 101, 102, 103, 104, 105, 106, 107, 108, 109, 110, 111, 112, 113, 114, 115, 116, 117, 118, 119, 120, 121, 122])) .nil))) (.app (pIn tab0) (.cons (.var 1) (.cons (.const (.str [48, 49, 50, 51, 52, 53, 54, 55, 56, 57])) .nil))))) .nil)))) (.nil))
def F_is_name : Fn := fnSem 1 2 ir_is_name
def ir_wrong_kind : Sms := .cons (.for_ (.t [1, 2]) (.app (pEnum) (.cons (.var 0) .nil)) (.cons (.ite (.orV (.notV (.app F_is_name (.cons (.var 2) .nil))) (.orV (.app (pIn tab0) (.cons (.var 2) (.cons (.app (pSl false true) (.cons (.var 0) (.cons (.var 1) .nil))) .nil))) (.app (pGe) (.cons (.var 1) (.cons (.const (.int 6)) .nil))))) (.cons (.ret (.var 1)) (.nil)) (.nil)) (.nil))) (.cons (.ret (.const (.non))) (.nil))
def F_wrong_kind : Fn := fnSem 1 3 ir_wrong_kind
def ir_check_new_kinds : Sms := .cons (.ite (.orV (.notV (.app (pIsinst "tuple") (.cons (.var 0) .nil))) (.app (pEq tab0) (.cons (.app (pLen tab0) (.cons (.var 0) .nil)) (.cons (.const (.int 0)) .nil)))) (.cons (.raise (.app (pExc "InvalidKinds" "index") (.cons (.const (.non)) .nil))) (.nil)) (.nil)) (.cons (.asg (.n 1) (.app F_wrong_kind (.cons (.var 0) .nil))) (.cons (.ite (.app (pNotN) (.cons (.var 1) (.cons (.const (.non)) .nil))) (.cons (.raise (.app (pExc "InvalidKinds" "index") (.cons (.var 1) .nil))) (.nil)) (.nil)) (.nil)))
def F_check_new_kinds : Fn := fnSem 1 2 ir_check_new_kinds
def ir_is_tie : Sms := .cons (.ret (.andV (.app (pIsinst "tuple") (.cons (.var 0) .nil)) (.andV (.app (pEq tab0) (.cons (.app (pLen tab0) (.cons (.var 0) .nil)) (.cons (.const (.int 2)) .nil))) (.andV (.app (pIn tab0) (.cons (.app (pIx) (.cons (.var 0) (.cons (.const (.int 0)) .nil))) (.cons (.var 1) .nil))) (.app (pIn tab0) (.cons (.app (pIx) (.cons (.var 0) (.cons (.const (.int 1)) .nil))) (.cons (.var 1) .nil))))))) (.nil)
def F_is_tie : Fn := fnSem 2 2 ir_is_tie
def ir_is_told : Sms := .cons (.ret (.orV (.app (pIn tab0) (.cons (.var 1) (.cons (.var 0) .nil))) (.app (pIn tab0) (.cons (.app pTup (.cons (.app (pIx) (.cons (.var 1) (.cons (.const (.int 1)) .nil))) (.cons (.app (pIx) (.cons (.var 1) (.cons (.const (.int 0)) .nil))) .nil))) (.cons (.var 0) .nil))))) (.nil)
def F_is_told : Fn := fnSem 2 2 ir_is_told
def ir_wrong_tie : Sms := .cons (.for_ (.t [2, 3]) (.app (pEnum) (.cons (.var 0) .nil)) (.cons (.ite (.orV (.notV (.app F_is_tie (.cons (.var 3) (.cons (.var 1) .nil)))) (.app F_is_told (.cons (.app (pSl false true) (.cons (.var 0) (.cons (.var 2) .nil))) (.cons (.var 3) .nil)))) (.cons (.ret (.var 2)) (.nil)) (.nil)) (.nil))) (.cons (.ret (.const (.non))) (.nil))
def F_wrong_tie : Fn := fnSem 2 4 ir_wrong_tie
def ir_check_ties : Sms := .cons (.ite (.notV (.app (pIsinst "tuple") (.cons (.var 0) .nil))) (.cons (.raise (.app (pExc "InvalidTies" "index") (.cons (.const (.non)) .nil))) (.nil)) (.nil)) (.cons (.asg (.n 2) (.app F_wrong_tie (.cons (.var 0) (.cons (.var 1) .nil)))) (.cons (.ite (.app (pNotN) (.cons (.var 2) (.cons (.const (.non)) .nil))) (.cons (.raise (.app (pExc "InvalidTies" "index") (.cons (.var 2) .nil))) (.nil)) (.nil)) (.nil)))
def F_check_ties : Fn := fnSem 2 3 ir_check_ties
def ir_lump_around : Sms := .cons (.asg (.n 2) (.app pLst (.cons (.var 1) .nil))) (.cons (.for_ (.n 3) (.app pRange (.cons (.app (pLen tab0) (.cons (.var 0) .nil)) .nil)) (.cons (.asg (.n 2) (.app (pSortSet) (.cons (.app (pAdd tab0) (.cons (.var 2) (.cons (.comp2 [4, 5] (.n 4) (.var 2) (.const (.bl true)) [5] (.n 5) (.app (pIx) (.cons (.var 0) (.cons (.var 4) .nil))) (.const (.bl true)) (.var 5)) .nil))) .nil))) (.nil))) (.cons (.ret (.app (pTuple) (.cons (.var 2) .nil))) (.nil)))
def F_lump_around : Fn := fnSem 2 6 ir_lump_around
def ir_near_outside : Sms := .cons (.asg (.n 3) (.comp [4, 5] (.t [4, 5]) (.var 1) (.andV (.app (pNotIn tab0) (.cons (.var 4) (.cons (.var 2) .nil))) (.app (pNotIn tab0) (.cons (.var 5) (.cons (.var 2) .nil)))) (.app pTup (.cons (.var 4) (.cons (.var 5) .nil))))) (.cons (.asg (.n 3) (.app (pAdd tab0) (.cons (.var 3) (.cons (.comp [4, 5] (.t [4, 5]) (.var 3) (.const (.bl true)) (.app pTup (.cons (.var 5) (.cons (.var 4) .nil)))) .nil)))) (.cons (.ret (.dcomp [6] (.n 6) (.app pRange (.cons (.var 0) .nil)) (.app (pNotIn tab0) (.cons (.var 6) (.cons (.var 2) .nil))) (.var 6) (.comp [4, 5] (.t [4, 5]) (.var 3) (.app (pEq tab0) (.cons (.var 4) (.cons (.var 6) .nil))) (.var 5)))) (.nil)))
def F_near_outside : Fn := fnSem 3 7 ir_near_outside
def ir_cut_of : Sms := .cons (.asg (.n 3) (.app F_near_outside (.cons (.var 0) (.cons (.var 1) (.cons (.var 2) .nil))))) (.cons (.asg (.n 4) (.app (pTuple) (.cons (.comp [5] (.n 5) (.var 3) (.app (pEq tab0) (.cons (.app (pIx) (.cons (.var 3) (.cons (.var 5) .nil))) (.cons (.app pLst .nil) .nil))) (.var 5)) .nil))) (.cons (.asg (.n 6) (.app pLst .nil)) (.cons (.for_ (.n 5) (.var 3) (.cons (.ite (.andV (.app (pNotIn tab0) (.cons (.var 5) (.cons (.var 4) .nil))) (.notV (.app (pAny) (.cons (.comp [7] (.n 7) (.var 6) (.const (.bl true)) (.app (pIn tab0) (.cons (.var 5) (.cons (.var 7) .nil)))) .nil)))) (.cons (.asg (.n 6) (.app (pAdd tab0) (.cons (.var 6) (.cons (.app pLst (.cons (.app F_lump_around (.cons (.var 3) (.cons (.var 5) .nil))) .nil)) .nil)))) (.nil)) (.nil)) (.nil))) (.cons (.ret (.app pTup (.cons (.var 2) (.cons (.var 4) (.cons (.app (pTuple) (.cons (.var 6) .nil)) .nil))))) (.nil)))))
def F_cut_of : Fn := fnSem 3 8 ir_cut_of
def ir_subsets : Sms := .cons (.asg (.n 1) (.app pLst (.cons (.app pTup .nil) .nil))) (.cons (.for_ (.n 2) (.app pRange (.cons (.var 0) .nil)) (.cons (.asg (.n 1) (.app (pAdd tab0) (.cons (.var 1) (.cons (.comp [3] (.n 3) (.var 1) (.const (.bl true)) (.app (pAdd tab0) (.cons (.var 3) (.cons (.app pTup (.cons (.var 2) .nil)) .nil)))) .nil)))) (.nil))) (.cons (.ret (.var 1)) (.nil)))
def F_subsets : Fn := fnSem 1 4 ir_subsets
def ir_cuts_of : Sms := .cons (.ret (.app (pTuple) (.cons (.comp [2] (.n 2) (.app F_subsets (.cons (.var 0) .nil)) (.const (.bl true)) (.app F_cut_of (.cons (.var 0) (.cons (.var 1) (.cons (.var 2) .nil))))) .nil))) (.nil)
def F_cuts_of : Fn := fnSem 2 3 ir_cuts_of
def ir_place_of : Sms := .cons (.ret (.app (pIx) (.cons (.comp [2, 3] (.t [2, 3]) (.app (pEnum) (.cons (.var 0) .nil)) (.app (pEq tab0) (.cons (.var 3) (.cons (.var 1) .nil))) (.var 2)) (.cons (.const (.int 0)) .nil)))) (.nil)
def F_place_of : Fn := fnSem 2 4 ir_place_of
def ir_Rule___init__ : Sms := .cons (.ex (.app F_check_new_kinds (.cons (.var 1) .nil))) (.cons (.ex (.app F_check_ties (.cons (.var 2) (.cons (.var 1) .nil)))) (.cons (.asg (.ac ["Rule"] (.var 0) "sorts") (.var 1)) (.cons (.asg (.ac ["Rule"] (.var 0) "links") (.var 2)) (.cons (.asg (.ac ["Rule"] (.var 0) "lines") (.app (pTuple) (.cons (.comp [3, 4] (.t [3, 4]) (.var 2) (.const (.bl true)) (.app pTup (.cons (.app F_place_of (.cons (.var 1) (.cons (.var 3) .nil))) (.cons (.app F_place_of (.cons (.var 1) (.cons (.var 4) .nil))) .nil)))) .nil))) (.cons (.asg (.ac ["Rule"] (.var 0) "borders") (.app F_cuts_of (.cons (.app (pLen tab0) (.cons (.var 1) .nil)) (.cons (.app (pFld ["Rule"] "lines") (.cons (.var 0) .nil)) .nil)))) (.nil))))))
def F_Rule___init__ : Fn := fnSem 3 5 ir_Rule___init__
def ir_Rule___add__ : Sms := .cons (.ite (.notV (.app F_is_tie (.cons (.var 1) (.cons (.app (pFld ["Rule"] "sorts") (.cons (.var 0) .nil)) .nil)))) (.cons (.raise (.app (pExc "InvalidTies" "index") (.cons (.const (.non)) .nil))) (.nil)) (.nil)) (.cons (.ite (.app F_is_told (.cons (.app (pFld ["Rule"] "links") (.cons (.var 0) .nil)) (.cons (.var 1) .nil))) (.cons (.die) (.nil)) (.nil)) (.cons (.ret (.app (mkV "Rule" F_Rule___init__) (.cons (.app (pFld ["Rule"] "sorts") (.cons (.var 0) .nil)) (.cons (.app (pAdd tab0) (.cons (.app (pFld ["Rule"] "links") (.cons (.var 0) .nil)) (.cons (.app pTup (.cons (.var 1) .nil)) .nil))) .nil)))) (.nil)))
def F_Rule___add__ : Fn := fnSem 2 2 ir_Rule___add__
def ir_read_tie : Sms := .cons (.asg (.n 1) (.app pSplit (.cons (.app pS (.cons (.var 0) .nil)) (.cons (.const (.str [32])) .nil)))) (.cons (.ret (.ite (.andV (.app (pEq tab0) (.cons (.app (pLen tab0) (.cons (.var 1) .nil)) (.cons (.const (.int 3)) .nil))) (.app (pEq tab0) (.cons (.app (pIx) (.cons (.var 1) (.cons (.const (.int 0)) .nil))) (.cons (.const (.str [116, 105, 101])) .nil)))) (.app pTup (.cons (.app (pIx) (.cons (.var 1) (.cons (.const (.int 1)) .nil))) (.cons (.app (pIx) (.cons (.var 1) (.cons (.const (.int 2)) .nil))) .nil))) (.const (.non)))) (.nil))
def F_read_tie : Fn := fnSem 1 2 ir_read_tie
def ir_read_rule : Sms := .cons (.ite (.notV (.app (pIsinst "str") (.cons (.var 0) .nil))) (.cons (.ret (.const (.non))) (.nil)) (.nil)) (.cons (.asg (.n 1) (.app pSplit (.cons (.app pS (.cons (.var 0) .nil)) (.cons (.const (.str [10])) .nil)))) (.cons (.asg (.n 2) (.app pSplit (.cons (.app pS (.cons (.app (pIx) (.cons (.var 1) (.cons (.const (.int 0)) .nil))) .nil)) (.cons (.const (.str [32])) .nil)))) (.cons (.par (atsOf [false, false] [3, 4]) (.cons (.app (pTuple) (.cons (.app (pSl true false) (.cons (.var 2) (.cons (.const (.int 1)) .nil))) .nil)) (.cons (.app (pTuple) (.cons (.comp [5] (.n 5) (.app (pSl true false) (.cons (.var 1) (.cons (.const (.int 1)) .nil))) (.const (.bl true)) (.app F_read_tie (.cons (.var 5) .nil))) .nil)) .nil))) (.cons (.ite (.orV (.app (pNe tab0) (.cons (.app (pIx) (.cons (.var 2) (.cons (.const (.int 0)) .nil))) (.cons (.const (.str [107, 105, 110, 100, 115])) .nil))) (.orV (.app (pEq tab0) (.cons (.app (pLen tab0) (.cons (.var 3) .nil)) (.cons (.const (.int 0)) .nil))) (.app (pNotN) (.cons (.app F_wrong_kind (.cons (.var 3) .nil)) (.cons (.const (.non)) .nil))))) (.cons (.ret (.const (.non))) (.nil)) (.nil)) (.cons (.ret (.ite (.app (pNotN) (.cons (.app F_wrong_tie (.cons (.var 4) (.cons (.var 3) .nil))) (.cons (.const (.non)) .nil))) (.const (.non)) (.app pTup (.cons (.var 3) (.cons (.var 4) .nil))))) (.nil))))))
def F_read_rule : Fn := fnSem 1 6 ir_read_rule
def ir_Rule_read : Sms := .cons (.asg (.n 2) (.app F_read_rule (.cons (.var 1) .nil))) (.cons (.ite (.app (pIsN) (.cons (.var 2) (.cons (.const (.non)) .nil))) (.cons (.raise (.app (pExc "InvalidText" "given") (.cons (.var 1) .nil))) (.nil)) (.nil)) (.cons (.ret (.app (tailF (mkV "Rule" (pickF [0, 1, 2] [] F_Rule___init__))) (.cons (.app (pCls "Rule") (.cons (.var 0) .nil)) (Exs.app (.cons (.app (pIx) (.cons (.var 2) (.cons (.const (.int 0)) .nil))) (.cons (.app (pIx) (.cons (.var 2) (.cons (.const (.int 1)) .nil))) .nil)) .nil)))) (.nil)))
def F_Rule_read : Fn := fnSem 2 3 ir_Rule_read
def ir__law_page : Sms := .cons (.ret (.app pJoin (.cons (.app pS (.cons (.const (.str [10])) .nil)) (.cons (.app (pAdd tab0) (.cons (.app pLst (.cons (.app pJoin (.cons (.app pS (.cons (.const (.str [32])) .nil)) (.cons (.app (pAdd tab0) (.cons (.app pLst (.cons (.const (.str [107, 105, 110, 100, 115])) .nil)) (.cons (.app (pList) (.cons (.var 0) .nil)) .nil))) .nil))) .nil)) (.cons (.comp [2, 3] (.t [2, 3]) (.var 1) (.const (.bl true)) (.app (pAdd tab0) (.cons (.app (pAdd tab0) (.cons (.app (pAdd tab0) (.cons (.const (.str [116, 105, 101, 32])) (.cons (.var 2) .nil))) (.cons (.const (.str [32])) .nil))) (.cons (.var 3) .nil)))) .nil))) .nil)))) (.nil)
def F__law_page : Fn := fnSem 2 4 ir__law_page
def ir_Rule___sub__ : Sms := .cons (.ite (.notV (.app F_is_tie (.cons (.var 1) (.cons (.app (pFld ["Rule"] "sorts") (.cons (.var 0) .nil)) .nil)))) (.cons (.raise (.app (pExc "InvalidTies" "index") (.cons (.const (.non)) .nil))) (.nil)) (.nil)) (.cons (.ite (.notV (.app F_is_told (.cons (.app (pFld ["Rule"] "links") (.cons (.var 0) .nil)) (.cons (.var 1) .nil)))) (.cons (.die) (.nil)) (.nil)) (.cons (.ret (.app (mkV "Rule" F_Rule___init__) (.cons (.app (pFld ["Rule"] "sorts") (.cons (.var 0) .nil)) (.cons (.app (pTuple) (.cons (.comp [2] (.n 2) (.app (pFld ["Rule"] "links") (.cons (.var 0) .nil)) (.app (pNotIn tab0) (.cons (.var 2) (.cons (.app pTup (.cons (.var 1) (.cons (.app pTup (.cons (.app (pIx) (.cons (.var 1) (.cons (.const (.int 1)) .nil))) (.cons (.app (pIx) (.cons (.var 1) (.cons (.const (.int 0)) .nil))) .nil))) .nil))) .nil))) (.var 2)) .nil)) .nil)))) (.nil)))
def F_Rule___sub__ : Fn := fnSem 2 3 ir_Rule___sub__
def ir_Rule___contains__ : Sms := .cons (.ret (.andV (.app F_is_tie (.cons (.var 1) (.cons (.app (pFld ["Rule"] "sorts") (.cons (.var 0) .nil)) .nil))) (.app F_is_told (.cons (.app (pFld ["Rule"] "links") (.cons (.var 0) .nil)) (.cons (.var 1) .nil))))) (.nil)
def F_Rule___contains__ : Fn := fnSem 2 2 ir_Rule___contains__
def ir_Rule___len__ : Sms := .cons (.ret (.app (pLen tab0) (.cons (.app (pFld ["Rule"] "links") (.cons (.var 0) .nil)) .nil))) (.nil)
def F_Rule___len__ : Fn := fnSem 1 1 ir_Rule___len__
def ir_Rule___bool__ : Sms := .cons (.ret (.const (.bl true))) (.nil)
def F_Rule___bool__ : Fn := fnSem 1 1 ir_Rule___bool__
def ir_Rule___eq__ : Sms := .cons (.ret (.andV (.app (pIsOwn sub_Rule) (.cons (.var 1) .nil)) (.andV (.app (pEq tab0) (.cons (.app (pFld ["Rule"] "sorts") (.cons (.var 0) .nil)) (.cons (.app (pFld ["Rule"] "sorts") (.cons (.var 1) .nil)) .nil))) (.app (pEq tab0) (.cons (.app (pFld ["Rule"] "links") (.cons (.var 0) .nil)) (.cons (.app (pFld ["Rule"] "links") (.cons (.var 1) .nil)) .nil)))))) (.nil)
def F_Rule___eq__ : Fn := fnSem 2 2 ir_Rule___eq__
def ir_Rule___str__ : Sms := .cons (.ret (.app pJoin (.cons (.app pS (.cons (.const (.str [10])) .nil)) (.cons (.app (pSpl [false, true]) (.cons (.app pJoin (.cons (.app pS (.cons (.const (.str [32])) .nil)) (.cons (.app (pSpl [false, true]) (.cons (.const (.str [107, 105, 110, 100, 115])) (.cons (.app (pSeq) (.cons (.app (pFld ["Rule"] "sorts") (.cons (.var 0) .nil)) .nil)) .nil))) .nil))) (.cons (.app (pSeq) (.cons (.comp [1, 2] (.t [1, 2]) (.app (pFld ["Rule"] "links") (.cons (.var 0) .nil)) (.const (.bl true)) (.app pFstr (.cons (.app pFmt (.cons (.const (.str [116, 105, 101, 32])) .nil)) (.cons (.app pFmt (.cons (.var 1) .nil)) (.cons (.app pFmt (.cons (.const (.str [32])) .nil)) (.cons (.app pFmt (.cons (.var 2) .nil)) .nil)))))) .nil)) .nil))) .nil)))) (.nil)
def F_Rule___str__ : Fn := fnSem 1 3 ir_Rule___str__
def tabR : Tab := fun c m => if c = "Rule" ∧ m = "__add__" then some (rT F_Rule___add__) else if c = "Rule" ∧ m = "__sub__" then some (rT F_Rule___sub__) else if c = "Rule" ∧ m = "__contains__" then some (blF F_Rule___contains__) else if c = "Rule" ∧ m = "__len__" then some (lenF F_Rule___len__) else if c = "Rule" ∧ m = "__bool__" then some (blF F_Rule___bool__) else if c = "Rule" ∧ m = "__eq__" then some (rIns "Rule" (blF F_Rule___eq__)) else if c = "Rule" ∧ m = "__str__" then some (strF F_Rule___str__) else none
def ir__law_names : Sms := .cons (.par (atsOf [false, false] [2, 3]) (.cons (.const (.str [97, 98, 99, 100, 101, 102, 103, 104, 105, 106, 107, 108, 109, 110, 111, 112, 113, 114, 115, 116, 117, 118, 119, 120, 121, 122, 48, 49, 50, 51, 52, 53, 54, 55, 56, 57])) (.cons (.app pLst (.cons (.const (.str [107, 105, 110, 100, 115])) (.cons (.const (.str [116, 105, 101])) (.cons (.const (.str [111, 118, 101, 114])) (.cons (.const (.str [97])) (.cons (.const (.str [98])) (.cons (.const (.str [108, 101, 102, 116])) (.cons (.const (.str [109, 101, 101, 116])) (.cons (.const (.str [122, 48])) .nil))))))))) .nil))) (.cons (.asg (.o 4) (.app pLst .nil)) (.cons (.for_ (.n 5) (.app pRange (.cons (.var 1) .nil)) (.cons (.par (atsOf [false, false] [7, 8]) (.cons (.app F__law_draw (.cons (.var 0) (.cons (.const (.int 4)) .nil))) (.cons (.app (pIx) (.cons (.var 2) (.cons (.app F__law_draw (.cons (.var 0) (.cons (.const (.int 26)) .nil))) .nil))) .nil))) (.cons (.for_ (.n 6) (.app pRange (.cons (.app F__law_draw (.cons (.var 0) (.cons (.ite (.app (pEq tab0) (.cons (.var 7) (.cons (.const (.int 0)) .nil))) (.const (.int 8)) (.const (.int 3))) .nil))) .nil)) (.cons (.asg (.n 8) (.app (pAdd tab0) (.cons (.var 8) (.cons (.app (pIx) (.cons (.var 2) (.cons (.app F__law_draw (.cons (.var 0) (.cons (.const (.int 36)) .nil))) .nil))) .nil)))) (.nil))) (.cons (.ite (.app (pEq tab0) (.cons (.app F__law_draw (.cons (.var 0) (.cons (.const (.int 5)) .nil))) (.cons (.const (.int 0)) .nil))) (.cons (.asg (.n 8) (.app (pIx) (.cons (.var 3) (.cons (.app F__law_draw (.cons (.var 0) (.cons (.const (.int 8)) .nil))) .nil)))) (.nil)) (.nil)) (.cons (.ite (.app (pIn tab0) (.cons (.var 8) (.cons (.var 4) .nil))) (.cons (.asg (.n 8) (.app (pIx) (.cons (.comp [9] (.n 9) (.comp [10] (.n 10) (.app pRange (.cons (.var 1) .nil)) (.const (.bl true)) (.app (pAdd tab0) (.cons (.const (.str [121])) (.cons (.app (pStrI) (.cons (.var 10) .nil)) .nil)))) (.app (pNotIn tab0) (.cons (.var 9) (.cons (.var 4) .nil))) (.var 9)) (.cons (.const (.int 0)) .nil)))) (.nil)) (.nil)) (.cons (.meth 4 mAppend (.cons (.var 8) .nil)) (.nil))))))) (.cons (.ret (.var 4)) (.nil))))
def F__law_names : Fn := fnSem 2 11 ir__law_names
def ir__law_has : Sms := .cons (.ret (.orV (.app (pIn tab0) (.cons (.var 1) (.cons (.var 0) .nil))) (.app (pIn tab0) (.cons (.app pTup (.cons (.app (pIx) (.cons (.var 1) (.cons (.const (.int 1)) .nil))) (.cons (.app (pIx) (.cons (.var 1) (.cons (.const (.int 0)) .nil))) .nil))) (.cons (.var 0) .nil))))) (.nil)
def F__law_has : Fn := fnSem 2 2 ir__law_has
def ir__law_tied : Sms := .cons (.ret (.app (pTuple) (.cons (.comp [2, 3] (.t [2, 3]) (.var 1) (.const (.bl true)) (.app pTup (.cons (.app (pIx) (.cons (.var 0) (.cons (.var 2) .nil))) (.cons (.app (pIx) (.cons (.var 0) (.cons (.var 3) .nil))) .nil)))) .nil))) (.nil)
def F__law_tied : Fn := fnSem 2 4 ir__law_tied
def ir__law_shows : Sms := .cons (.ite (.notV (.app (pIsOwn sub_Rule) (.cons (.var 0) .nil))) (.cons (.ret (.const (.bl false))) (.nil)) (.nil)) (.cons (.asg (.n 3) (.app pLst (.cons (.var 1) (.cons (.var 2) (.cons (.app (pLen tab0) (.cons (.var 2) .nil)) (.cons (.const (.bl true)) (.cons (.app F__law_page (.cons (.var 1) (.cons (.var 2) .nil))) .nil))))))) (.cons (.ite (.app (pNe tab0) (.cons (.app (pRepr) (.cons (.app pLst (.cons (.app (pFld ["Rule"] "sorts") (.cons (.var 0) .nil)) (.cons (.app (pFld ["Rule"] "links") (.cons (.var 0) .nil)) (.cons (.app (pLen tabR) (.cons (.var 0) .nil)) (.cons (.app (pBool tabR) (.cons (.var 0) .nil)) (.cons (.app (pStrO tabR) (.cons (.var 0) .nil)) .nil)))))) .nil)) (.cons (.app (pRepr) (.cons (.var 3) .nil)) .nil))) (.cons (.ret (.const (.bl false))) (.nil)) (.nil)) (.cons (.for_ (.n 4) (.var 1) (.cons (.for_ (.n 5) (.var 1) (.cons (.ite (.app (pNe tab0) (.cons (.app (pRepr) (.cons (.app (pIn tabR) (.cons (.app pTup (.cons (.var 4) (.cons (.var 5) .nil))) (.cons (.var 0) .nil))) .nil)) (.cons (.app (pRepr) (.cons (.app F__law_has (.cons (.var 2) (.cons (.app pTup (.cons (.var 4) (.cons (.var 5) .nil))) .nil))) .nil)) .nil))) (.cons (.ret (.const (.bl false))) (.nil)) (.nil)) (.nil))) (.nil))) (.cons (.ret (.const (.bl true))) (.nil)))))
def F__law_shows : Fn := fnSem 3 6 ir__law_shows
end
end Pk

set_option Elab.async false
set_option linter.all false
set_option autoImplicit false
set_option maxRecDepth 100000
set_option maxHeartbeats 1000000
/-! Draw: what laws draw. -/
namespace Pk
/-- every cell is a purse with so few draws -/
def PM (n : Nat) (M : Mem) : Prop := ∀ c ∈ M, ∃ a b d : Int, c = .lst [.int a, .int b, .int d] ∧ 0 ≤ a ∧ 0 ≤ b ∧ 0 ≤ d ∧ d ≤ n
theorem PM.mono {M : Mem} {n m : Nat} (h : PM n M) (l : n ≤ m) : PM m M := fun c hc => by
  obtain ⟨a, b, d, e, q1, q2, q3, q4⟩ := h c hc
  exact ⟨a, b, d, e, q1, q2, q3, by omega⟩
theorem PM.set {M : Mem} {n k : Nat} {a b d : Int} (h : PM n M) (h1 : 0 ≤ a) (h2 : 0 ≤ b) (h3 : 0 ≤ d) (h4 : d ≤ (n + 1 : Nat)) : PM (n + 1) (M.set k (.lst [.int a, .int b, .int d])) := fun c hc => by
  rcases List.mem_or_eq_of_mem_set hc with hc | rfl
  · obtain ⟨a, b, d, e, q1, q2, q3, q4⟩ := h c hc
    exact ⟨a, b, d, e, q1, q2, q3, by omega⟩
  · exact ⟨a, b, d, rfl, h1, h2, h3, h4⟩
/-- no cell has a reference -/
theorem PM.free {M : Mem} {n k : Nat} (h : PM n M) : M.all (freeC k) = true := by
  rw [List.all_eq_true]
  intro c hc
  obtain ⟨a, b, d, rfl, _⟩ := h c hc
  rfl
/-- a purse at k -/
structure Pu (n : Nat) (k : Nat) (M : Mem) : Prop where
  pm : PM n M
  lt : k < M.length
theorem Pu.mono {M : Mem} {n m k : Nat} (h : Pu n k M) (l : n ≤ m) : Pu m k M := ⟨h.pm.mono l, h.lt⟩
theorem draw_wp {M : Mem} {k n : Nat} {m : Int} {Q : D → Mem → Prop} (hM : Pu n k M) (hn : n < 1000000) (h0 : 0 < m) (h1 : m < 115792089237316195423570985008687907853269984665640564039457584007913129639936)
    (h : ∀ (r : Nat) (M' : Mem), (r : Int) < m → Pu (n + 1) k M' → Q (.int r) M') : wp (F__law_draw [.ref k, .int m] M) Q := by
  obtain ⟨hM, hk⟩ := hM
  obtain ⟨a, b, d, hc, ha, hb, hd, hdn⟩ := hM M[k] (List.getElem_mem hk)
  have hg : M[k]? = some (.lst [.int a, .int b, .int d]) := by rw [List.getElem?_eq_getElem hk, hc]
  have h' : ∀ (r : Int) (M' : Mem), 0 ≤ r → r < m → PM (n + 1) M' → M'.length = M.length → Q (.int r) M' := fun r M' h1 h2 h3 h4 => by
    obtain ⟨q, rfl⟩ := Int.eq_ofNat_of_zero_le h1
    exact h q M' h2 ⟨h3, by omega⟩
  simp [F__law_draw, ir__law_draw, fn_eq, start0, ix_at hg, scS_at hg]
  split
  · refine ⟨⟨h0, h1⟩, ?_⟩
    exact h' _ _ (Int.emod_nonneg _ (by omega)) (Int.emod_lt_of_pos _ h0) (hM.set ha (Int.ediv_nonneg hb (by omega)) hd (by omega)) (by simp)
  · simp [hk, mul_r, mul_l, mul_r (a := 7919 * (d + 1)) (b := d + 1) (by omega) (by omega), h0]
    exact h' _ _ (Int.emod_nonneg _ (by omega)) (Int.emod_lt_of_pos _ h0) (hM.set (Int.emod_nonneg _ (by omega)) hb (by omega) (by omega)) (by simp)

/-- a purse is made -/
theorem purse_wp {M : Mem} {n at_ : Nat} {ns : List Int} {Q : D → Mem → Prop} (hM : PM n M) (hl : ns.length ≤ 63) (h : ∀ M', Pu n M.length M' → M'.length = M.length + 1 → Q (.ref M.length) M') : wp (F__law_purse [.scr (ns.map .int), .int at_] M) Q := by
  unfold F__law_purse ir__law_purse
  refine fn_wp rfl (go_n (isV (fun d => ∃ c : Int, d = .int c) M) ?_ ?_)
  · simp [start0]
    split
    · rename_i hl
      rw [atI_nat, List.getElem?_map, List.getElem?_eq_getElem hl]
      exact hold ⟨rfl, _, rfl⟩
    · exact hold ⟨rfl, _, rfl⟩
  rintro d M' ⟨rfl, c, rfl⟩
  refine go_n (isV (fun d => d = .int (15485863 + 32452843 * at_)) M') ?_ ?_
  · simp [start0, mul_l]
    exact hold ⟨rfl, rfl⟩
  rintro d M' ⟨rfl, rfl⟩
  refine go_for (isV (fun d => ∃ l : List Int, d = .lst (l.map .int)) M') ?_ ?_
  · simp [start0]
    constructor
    · unfold cut sIx lim; simp; omega
    · refine hold ⟨rfl, (ns.take 4) ++ [c], ?_⟩
      unfold cut sIx
      simp
  rintro d M' ⟨rfl, l, rfl⟩
  simp [start0, forS]
  refine for_map (fun j Γ M => M = M' ∧ ∃ (m : Int) (s : Slot), 0 ≤ m ∧ Γ = [.val (.scr (ns.map .int)), .val (.int at_), .val (.int c), .val (.int m), s]) l _ _ ⟨rfl, _, _, by omega, rfl⟩ ?_ ?_
  · rintro j x Γ M _ ⟨rfl, m, s, hm, rfl⟩
    simp [turn, mul_r]
    exact hold ⟨rfl, _, _, Int.emod_nonneg _ (by omega), rfl⟩
  · rintro Γ M ⟨rfl, m, s, hm, rfl⟩
    have fin : ∀ b : Int, 0 ≤ b → Q (.ref M.length) (M ++ [.lst [.int m, .int b, .int 0]]) := fun b hb => h _ ⟨fun q hq => by
      rcases List.mem_append.mp hq with hq | hq
      · exact hM q hq
      · rw [List.mem_singleton.mp hq]
        exact ⟨m, b, 0, rfl, hm, hb, by omega, by omega⟩, by simp⟩ (by simp)
    simp
    repeat' split
    all_goals (apply fin; omega)
end Pk
namespace Pk
def letter (c : Nat) : Bool := decide (97 ≤ c) && decide (c ≤ 122)
def digit (c : Nat) : Bool := decide (48 ≤ c) && decide (c ≤ 57)
/-- a name -/
def nameC : Cs → Bool
  | [] => false
  | c :: s => letter c && (c :: s).all (fun c => letter c || digit c) && decide (s.length < 8)
abbrev signs : Cs := [97, 98, 99, 100, 101, 102, 103, 104, 105, 106, 107, 108, 109, 110, 111, 112, 113, 114, 115, 116, 117, 118, 119, 120, 121, 122, 48, 49, 50, 51, 52, 53, 54, 55, 56, 57]
abbrev words : List Cs := [[107, 105, 110, 100, 115], [116, 105, 101], [111, 118, 101, 114], [97], [98], [108, 101, 102, 116], [109, 101, 101, 116], [122, 48]]
theorem ix_signs {r : Nat} {M : Mem} (h : r < 36) : ∃ c, pIx [.str signs, .int r] M = .ok (.str [c]) M ∧ (letter c || digit c) = true ∧ (r < 26 → letter c = true) := by
  refine ⟨signs[r]'h, ?_, ?_, ?_⟩
  · rw [ix_str, if_pos (by unfold lim; decide), atI_nat, List.getElem?_eq_getElem h]
  · revert r; decide
  · revert r; decide
theorem at_words {r : Nat} (h : r < 8) : ∃ w, atI [D.str [107, 105, 110, 100, 115], D.str [116, 105, 101], D.str [111, 118, 101, 114], D.str [97], D.str [98], D.str [108, 101, 102, 116], D.str [109, 101, 101, 116], D.str [122, 48]] (r : Int) = some (.str w) ∧ nameC w = true := by
  refine ⟨words[r]'h, ?_, ?_⟩
  · show atI (words.map D.str) (r : Int) = _
    rw [atI_nat, List.getElem?_map, List.getElem?_eq_getElem h]; rfl
  · revert r; decide
theorem nameC_ok {s : Cs} (h : nameC s = true) : okC s = true := by
  cases s with
  | nil => rfl
  | cons c s =>
    unfold nameC at h
    simp only [Bool.and_eq_true, decide_eq_true_eq, List.all_eq_true, Bool.or_eq_true] at h
    unfold okC
    rw [List.all_eq_true]
    intro x hx
    have := h.1.2 x hx
    simp [letter, digit] at this ⊢
    omega
/-- y0, y1, .. -/
def yC (k : Nat) : Cs := [121, 48 + k]
theorem y_int {k : Nat} (h : k < 8) : intCs (k : Int) = [48 + k] := by
  revert k; decide +kernel
theorem yC_name {k : Nat} (h : k < 8) : nameC (yC k) = true := by
  revert k; decide +kernel
theorem fitsI_small {k : Nat} (h : k < 1000) : fitsI (k : Int) = true := by
  unfold fitsI
  rw [decide_eq_true_eq, Int.natAbs_natCast]
  have : 1000 < 10 ^ 500 := by decide +kernel
  omega
/-- a word on its way to a name -/
def wordC (j : Nat) : Cs → Prop
  | [] => False
  | c :: s => letter c = true ∧ (∀ x ∈ s, (letter x || digit x) = true) ∧ s.length = j
theorem wordC.name {j : Nat} {s : Cs} (h : wordC j s) (hj : j < 8) : nameC s = true := by
  cases s with
  | nil => exact h.elim
  | cons c s =>
    obtain ⟨h1, h2, h3⟩ := h
    unfold nameC
    simp only [Bool.and_eq_true, decide_eq_true_eq, List.all_eq_true]
    refine ⟨⟨h1, fun x hx => ?_⟩, by omega⟩
    rcases List.mem_cons.mp hx with rfl | hx
    · rw [h1]; rfl
    · exact h2 x hx
theorem wordC.more {j : Nat} {s : Cs} {c : Nat} (h : wordC j s) (hc : (letter c || digit c) = true) : wordC (j + 1) (s ++ [c]) := by
  cases s with
  | nil => exact h.elim
  | cons d s =>
    obtain ⟨h1, h2, h3⟩ := h
    refine ⟨h1, fun x hx => ?_, by simp [h3]⟩
    rcases List.mem_append.mp hx with hx | hx
    · exact h2 x hx
    · rw [List.mem_singleton.mp hx]; exact hc
abbrev envN (k many : Nat) (l : List Cs) (s5 s6 s7 s8 : Slot) : Env := [.val (.ref k), .val (.int many), .val (.str signs), .val (.lst (words.map .str)), .own (.lst (l.map .str)), s5, s6, s7, s8, .no, .no]
theorem names_c1 {M : Mem} {k many : Nat} {l : List Cs} {s5 s6 s7 s8 : Slot} (hm : many ≤ 8) : compS [10] (.n 10) (.const (.bl true)) (.app (pAdd tab0) (.cons (.const (.str [121])) (.cons (.app pStrI (.cons (.var 10) .nil)) .nil))) (.lst (rangeL 0 many)) (envN k many l s5 s6 s7 s8) M = .ok (.lst ((List.range many).map fun k : Nat => .str (yC k))) M := by
  refine compS_map (g := fun k : Nat => D.int (0 + (k : Int))) (fun k : Nat => .str (yC k)) (by rw [rangeL_map]; rfl) fun q hq => ?_
  have hq : q < 8 := by have := List.mem_range.mp hq; omega
  simp [turn1, y_int hq, lim, yC, fitsI_small (by omega : q < 1000)]
theorem names_c2 {M : Mem} {k many : Nat} {l : List Cs} {s5 s6 s7 s8 : Slot} (hm : many ≤ 8) (hnm : ∀ s ∈ l, nameC s = true) : compS [9] (.n 9) (.app (pNotIn tab0) (.cons (.var 9) (.cons (.var 4) .nil))) (.var 9) (.lst ((List.range many).map fun k : Nat => .str (yC k))) (envN k many l s5 s6 s7 s8) M = .ok (.lst (((List.range many).filter fun k : Nat => !decide (yC k ∈ l)).map fun k : Nat => .str (yC k))) M := by
  refine compS_filter (g := fun k : Nat => .str (yC k)) (fun k : Nat => !decide (yC k ∈ l)) (fun k : Nat => .str (yC k)) rfl fun q hq => ?_
  have hq : q < 8 := by have := List.mem_range.mp hq; omega
  simp [turn1, notIn_def, in_lst, in_strs (nameC_ok (yC_name hq)) (fun s hs => nameC_ok (hnm s hs))]
  split <;> rfl
theorem names_c3 {many : Nat} {l : List Cs} (hl : l.length < many) : ∃ q0 L, ((List.range many).filter fun k : Nat => !decide (yC k ∈ l)) = q0 :: L ∧ q0 < many ∧ yC q0 ∉ l := by
  have hex : ∃ q, q < many ∧ yC q ∉ l := by
    apply Classical.byContradiction
    intro hc
    have hsub : ∀ x ∈ (List.range many).map yC, x ∈ l := fun x hx => by
      obtain ⟨q, hq, rfl⟩ := List.mem_map.mp hx
      exact Classical.byContradiction fun hn => hc ⟨q, List.mem_range.mp hq, hn⟩
    have := erase_sub (xs := (List.range many).map yC) (ys := l) (List.Pairwise.map yC (fun a b hab e => hab (by simpa [yC] using e)) List.nodup_range) hsub
    simp at this
    omega
  obtain ⟨q, hq1, hq2⟩ := hex
  have hmem : q ∈ (List.range many).filter fun k : Nat => !decide (yC k ∈ l) := by simp [hq1, hq2]
  cases hL : (List.range many).filter fun k : Nat => !decide (yC k ∈ l) with
  | nil => rw [hL] at hmem; cases hmem
  | cons q0 L =>
    have h0 : q0 ∈ (List.range many).filter fun k : Nat => !decide (yC k ∈ l) := by rw [hL]; exact List.mem_cons_self
    simp at h0
    exact ⟨q0, L, rfl, h0.1, h0.2⟩
theorem names_wp {M : Mem} {n k many : Nat} {Q : D → Mem → Prop} (hM : Pu n k M) (hn : n < 900000) (hm : many ≤ 8)
    (h : ∀ (l : List Cs) (M' : Mem), l.length = many → l.Nodup → (∀ s ∈ l, nameC s = true) → Pu (n + 100) k M' → Q (.lst (l.map .str)) M') : wp (F__law_names [.ref k, .int many] M) Q := by
  unfold F__law_names ir__law_names
  refine fn_wp rfl ?_
  refine go_mid (fun Γ M' => M' = M ∧ Γ = [.val (.ref k), .val (.int many), .val (.str signs), .val (.lst (words.map .str)), .no, .no, .no, .no, .no, .no, .no]) (by simp [start0]; exact hold ⟨rfl, rfl⟩) ?_
  rintro Γ M' ⟨rfl, rfl⟩
  refine go_mid (fun Γ M => M = M' ∧ Γ = envN k many [] .no .no .no .no) (by simp; exact hold ⟨rfl, rfl⟩) ?_
  rintro Γ M ⟨rfl, rfl⟩
  refine go_for (isV (fun d => d = .lst ((List.range many).map fun j : Nat => .int (0 + (j : Int)))) M) ?_ ?_
  · simp [rangeL_map, lim]
    exact ⟨by omega, hold ⟨rfl, by simp⟩⟩
  rintro d M ⟨rfl, rfl⟩
  simp only [forS, items_lst]
  refine for_map (fun j Γ M => Pu (n + 12 * j) k M ∧ ∃ (l : List Cs) (s5 s6 s7 s8 : Slot), l.length = j ∧ l.Nodup ∧ (∀ s ∈ l, nameC s = true) ∧ Γ = envN k many l s5 s6 s7 s8) (List.range many) _ _ ⟨hM, [], _, _, _, _, rfl, List.nodup_nil, (fun _ h => nomatch h), rfl⟩ ?_ ?_
  · rintro j x Γ M hx ⟨hP, l, s5, s6, s7, s8, hl, hnd, hnm, rfl⟩
    have hj : j < many := by
      have := (List.getElem?_eq_some_iff.mp hx).1
      simpa using this
    simp only [turn, asgTg_n]
    -- a first sign
    refine go_mid (fun Γ M => Pu (n + 12 * j + 2) k M ∧ ∃ (s5 s6 : Slot) (r c : Nat), letter c = true ∧ Γ = envN k many l s5 s6 (.val (.int r)) (.val (.str [c]))) ?_ ?_
    · simp
      refine draw_wp hP (by omega) (by omega) (by omega) fun r1 M1 hr1 hP1 => ?_
      simp
      refine draw_wp hP1 (by omega) (by omega) (by omega) fun r2 M2 hr2 hP2 => ?_
      obtain ⟨c, hc, _, h3⟩ := ix_signs (M := M2) (r := r2) (by omega)
      simp [hc]
      exact hold ⟨hP2, _, _, r1, c, h3 (by omega), rfl⟩
    clear s5 s6 s7 s8 hP M
    rintro Γ M ⟨hP, s5, s6, r, c, hc, rfl⟩
    -- more signs
    refine go_for (fun d M => Pu (n + 12 * j + 3) k M ∧ ∃ q : Nat, q < 8 ∧ d = .lst ((List.range q).map fun j : Nat => .int (0 + (j : Int)))) ?_ ?_
    · simp
      split
      all_goals
        refine draw_wp hP (by omega) (by omega) (by omega) fun r1 M1 hr1 hP1 => ?_
        simp [rangeL_map, lim]
        exact ⟨by omega, hold ⟨hP1, r1, by omega, by simp⟩⟩
    clear hP M
    rintro d M ⟨hP, q, hq, rfl⟩
    simp only [forS, items_lst]
    refine for_map (fun i Γ M => Pu (n + 12 * j + 3 + i) k M ∧ ∃ (s6 : Slot) (w : Cs), wordC i w ∧ Γ = envN k many l s5 s6 (.val (.int r)) (.val (.str w))) (List.range q) _ _ ⟨hP, s6, [c], ⟨hc, (fun _ h => nomatch h), rfl⟩, rfl⟩ ?_ ?_
    · rintro i x Γ M hx ⟨hP, s6, w, hw, rfl⟩
      have hi : i < q := by
        have := (List.getElem?_eq_some_iff.mp hx).1
        simpa using this
      simp [turn]
      refine draw_wp hP (by omega) (by omega) (by omega) fun r1 M1 hr1 hP1 => ?_
      obtain ⟨c1, hc1, h2, _⟩ := ix_signs (M := M1) (r := r1) (by omega)
      have hlw : w.length = i + 1 := by
        cases w with
        | nil => exact hw.elim
        | cons a w => simp [hw.2.2]
      simp [hc1, hlw, lim]
      exact ⟨by omega, hold ⟨hP1.mono (by omega), _, _, hw.more h2, rfl⟩⟩
    clear s6 hP M
    rintro Γ M ⟨hP, s6, w, hw, rfl⟩
    replace hw := hw.name (by simpa using hq)
    replace hP : Pu (n + 12 * j + 10) k M := hP.mono (by simp; omega)
    -- a word of texts
    refine go_mid (fun Γ M => Pu (n + 12 * j + 12) k M ∧ ∃ w : Cs, nameC w = true ∧ Γ = envN k many l s5 s6 (.val (.int r)) (.val (.str w))) ?_ ?_
    · simp
      refine draw_wp hP (by omega) (by omega) (by omega) fun r1 M1 hr1 hP1 => ?_
      simp
      split
      · refine draw_wp hP1 (by omega) (by omega) (by omega) fun r2 M2 hr2 hP2 => ?_
        obtain ⟨v, hv, h2⟩ := at_words (r := r2) (by omega)
        simp [hv]
        exact hold ⟨hP2, v, h2, rfl⟩
      · exact hold ⟨hP1.mono (by omega), w, hw, rfl⟩
    clear hw hP w M
    rintro Γ M ⟨hP, w, hw, rfl⟩
    -- another one, if it is there
    refine go_mid (fun Γ M => Pu (n + 12 * j + 12) k M ∧ ∃ w : Cs, nameC w = true ∧ w ∉ l ∧ Γ = envN k many l s5 s6 (.val (.int r)) (.val (.str w))) ?_ ?_
    · simp [in_lst, in_strs (nameC_ok hw) (fun s hs => nameC_ok (hnm s hs))]
      split
      · obtain ⟨q0, L, hL, hq0, hq1⟩ := names_c3 (l := l) (many := many) (by omega)
        rw [names_c1 hm]
        refine ⟨by unfold lim; omega, ?_⟩
        simp only [wp_ok, names_c2 hm hnm, hL]
        simp
        exact hold ⟨hP, yC q0, yC_name (by omega), hq1, rfl⟩
      · rename_i hwl
        exact hold ⟨hP, w, hw, hwl, rfl⟩
    clear hw hP w M
    rintro Γ M ⟨hP, w, hw, hwl, rfl⟩
    have hlim : l.length < lim := by unfold lim; omega
    simp [hlim]
    refine hold ⟨hP.mono (by omega), l ++ [w], s5, s6, .val (.int r), .val (.str w), by simp [hl], ?_, ?_, by simp⟩
    · rw [List.nodup_append]
      exact ⟨hnd, by simp, fun a ha b hb => by rw [List.mem_singleton.mp hb]; rintro rfl; exact hwl ha⟩
    · intro s hs
      rcases List.mem_append.mp hs with hs | hs
      · exact hnm s hs
      · rw [List.mem_singleton.mp hs]; exact hw
  · rintro Γ M ⟨hP, l, s5, s6, s7, s8, hl, hnd, hnm, rfl⟩
    simp
    exact h l M (by simpa using hl) hnd hnm (hP.mono (by simp; omega))
end Pk

set_option Elab.async false
set_option linter.all false
set_option autoImplicit false
set_option maxRecDepth 100000
set_option maxHeartbeats 1000000
/-! RulesA: names and ties as the program looks at them. -/
namespace Pk
/-! ### names -/
theorem in_str1 {T : Tab} {M : Mem} {c : Nat} {s : Cs} : pIn T [.str [c], .str s] M = .ok (.bl (decide (c ∈ s))) M := rfl
theorem letter_mem {c : Nat} : decide (c ∈ [97, 98, 99, 100, 101, 102, 103, 104, 105, 106, 107, 108, 109, 110, 111, 112, 113, 114, 115, 116, 117, 118, 119, 120, 121, 122]) = letter c := by
  unfold letter
  rw [← Bool.decide_and]
  apply decide_eq_decide.mpr
  simp only [List.mem_cons, List.not_mem_nil, or_false]
  omega
theorem digit_mem {c : Nat} : decide (c ∈ [48, 49, 50, 51, 52, 53, 54, 55, 56, 57]) = digit c := by
  unfold digit
  rw [← Bool.decide_and]
  apply decide_eq_decide.mpr
  simp only [List.mem_cons, List.not_mem_nil, or_false]
  omega
theorem in_let {T : Tab} {M : Mem} {c : Nat} : pIn T [.str [c], .str [97, 98, 99, 100, 101, 102, 103, 104, 105, 106, 107, 108, 109, 110, 111, 112, 113, 114, 115, 116, 117, 118, 119, 120, 121, 122]] M = .ok (.bl (letter c)) M := by
  rw [in_str1, letter_mem]
theorem in_dig {T : Tab} {M : Mem} {c : Nat} : pIn T [.str [c], .str [48, 49, 50, 51, 52, 53, 54, 55, 56, 57]] M = .ok (.bl (digit c)) M := by
  rw [in_str1, digit_mem]
theorem items_str {s : Cs} (h : s.length ≤ lim) : items (.str s) = some (s.map fun c => .str [c]) := if_pos h
theorem bls_map {α : Type} (f : α → Bool) : ∀ xs : List α, bls (xs.map fun x => .bl (f x)) = some (xs.map f)
  | [] => rfl
  | x :: xs => by
    show (match bls (xs.map fun x => .bl (f x)) with
      | some bs => some (f x :: bs)
      | none => none) = _
    rw [bls_map f xs]; rfl
theorem all_map {α : Type} {f : α → Bool} {xs : List α} {M : Mem} : pAll [.lst (xs.map fun x => .bl (f x))] M = .ok (.bl (xs.all f)) M := by
  show (match bls (xs.map fun x => .bl (f x)) with
    | some bs => Res.ok (D.bl (bs.all id)) M
    | none => .stuck) = _
  rw [bls_map]
  simp [List.all_map]
theorem any_map {α : Type} {f : α → Bool} {xs : List α} {M : Mem} : pAny [.lst (xs.map fun x => .bl (f x))] M = .ok (.bl (xs.any f)) M := by
  show (match bls (xs.map fun x => .bl (f x)) with
    | some bs => Res.ok (D.bl (bs.any id)) M
    | none => .stuck) = _
  rw [bls_map]
  simp [List.any_map]
theorem is_name_eq {M : Mem} {s : Cs} (h : s.length ≤ lim) : F_is_name [.str s] M = .ok (.bl (nameC s)) M := by
  have key : wp (F_is_name [.str s] M) fun d M' => d = .bl (nameC s) ∧ M' = M := by
    unfold F_is_name ir_is_name
    refine fn_wp rfl ?_
    cases s with
    | nil => simp [start0, isB, lim, nameC]
    | cons c s =>
      have hc : compS [1] (.n 1) (.const (.bl true)) (.orV (.app (pIn tab0) (.cons (.var 1) (.cons (.const (.str [97, 98, 99, 100, 101, 102, 103, 104, 105, 106, 107, 108, 109, 110, 111, 112, 113, 114, 115, 116, 117, 118, 119, 120, 121, 122])) .nil))) (.app (pIn tab0) (.cons (.var 1) (.cons (.const (.str [48, 49, 50, 51, 52, 53, 54, 55, 56, 57])) .nil)))) (.str (c :: s)) [.val (.str (c :: s)), .no] M = .ok (.lst ((c :: s).map fun c => .bl (letter c || digit c))) M := by
        refine compS_map (g := fun c => D.str [c]) (fun c => .bl (letter c || digit c)) (items_str h) fun x _ => ?_
        simp [turn1, in_let, in_dig]
        cases letter x <;> simp
      simp at h
      have e1 : (1 : Int) ≤ (s.length : Int) + 1 := by omega
      simp [start0, isB, h, e1]
      by_cases hl : s.length < 8
      · have e : ((s.length : Int) + 1 ≤ 8) := by omega
        simp [e, in_let]
        cases hk : letter c with
        | false => simp [nameC, hk]
        | true =>
          simp only [if_true, wp_bnd, hc, wp_ok, all_map]
          simp [nameC, hk, hl]
          intro h8; omega
      · have e : ¬ ((s.length : Int) + 1 ≤ 8) := by omega
        simp [e, nameC, hl]
  obtain ⟨a, M', e, rfl, rfl⟩ := key.ex
  exact e

/-! ### tuples of names, of ties -/
def namesT (ns : List Cs) : D := .tup (ns.map .str)
def tieD (t : Cs × Cs) : D := .tup [.str t.1, .str t.2]
def tiesT (ts : List (Cs × Cs)) : D := .tup (ts.map tieD)
theorem enumL_map {α : Type} (g : α → D) : ∀ (xs : List α) (i : Nat), enumL (i : Int) (xs.map g) = (xs.zipIdx i).map fun p => .tup [.int (p.2 : Nat), g p.1]
  | [], _ => rfl
  | x :: xs, i => by
    show D.tup [.int i, g x] :: enumL ((i : Int) + 1) (xs.map g) = _
    rw [show ((i : Int) + 1) = ((i + 1 : Nat) : Int) by omega, enumL_map g xs (i + 1)]
    rfl
theorem cut_take {α : Type} {xs : List α} {j : Nat} (h : j ≤ xs.length) : cut xs none (some (j : Int)) = xs.take j := by
  unfold cut sIx
  simp
  rw [if_neg (by omega)]
  congr 1
  omega
theorem zip_at {α : Type} {xs : List α} {j i : Nat} {x : α} (h : xs.zipIdx[j]? = some (x, i)) : i = j ∧ xs[j]? = some x := by
  rw [List.getElem?_zipIdx] at h
  cases q : xs[j]? with
  | none => rw [q] at h; cases h
  | some y => rw [q] at h; simp at h; exact ⟨h.2.symm, by rw [h.1]⟩
theorem nameC_len {s : Cs} (h : nameC s = true) : s.length ≤ 8 := by
  cases s with
  | nil => simp
  | cons c s => unfold nameC at h; simp at h; simp; omega
/-- kinds as a rule may have them -/
structure Kinds (ns : List Cs) : Prop where
  nd : ns.Nodup
  nm : ∀ s ∈ ns, nameC s = true
  pos : 0 < ns.length
  le : ns.length ≤ 6
theorem in_names {T : Tab} {M : Mem} {ns : List Cs} {a : Cs} (h : ∀ s ∈ ns, nameC s = true) (ha : okC a = true) : pIn T [.str a, namesT ns] M = .ok (.bl (decide (a ∈ ns))) M := by
  unfold namesT
  rw [in_tup, in_strs ha fun s hs => nameC_ok (h s hs)]
  rfl
theorem wrong_kind_ok {M : Mem} {ns : List Cs} (h : Kinds ns) : F_wrong_kind [namesT ns] M = .ok .non M := by
  have key : wp (F_wrong_kind [namesT ns] M) fun d M' => d = .non ∧ M' = M := by
    unfold F_wrong_kind ir_wrong_kind
    refine fn_wp rfl ?_
    refine go_for (isV (fun d => d = .lst (ns.zipIdx.map fun p => .tup [.int (p.2 : Nat), .str p.1])) M) ?_ ?_
    · have := enumL_map D.str ns 0
      simp [start0, namesT]
      exact hold ⟨rfl, by simpa using this⟩
    rintro d M' ⟨rfl, rfl⟩
    simp only [forS, items_lst]
    refine for_map (fun j Γ M => M = M' ∧ ∃ s1 s2, Γ = [.val (namesT ns), s1, s2]) ns.zipIdx _ _ ⟨rfl, _, _, rfl⟩ ?_ ?_
    · rintro j ⟨x, i⟩ Γ M hx ⟨rfl, s1, s2, rfl⟩
      obtain ⟨rfl, hx⟩ := zip_at hx
      have hj : i < ns.length := (List.getElem?_eq_some_iff.mp hx).1
      have hm : x ∈ ns := List.mem_of_getElem? hx
      have hn := h.nm x hm
      have h6 : ¬ (6 : Int) ≤ (i : Int) := by have := h.le; omega
      have hnot : x ∉ ns.take i := fun hc => by
        obtain ⟨q, hq, e⟩ := List.getElem_of_mem hc
        rw [List.getElem_take] at e
        rw [List.length_take] at hq
        have := (List.getElem?_eq_some_iff.mp hx).2
        exact List.pairwise_iff_getElem.mp h.nd q i (by omega) hj (by omega) (e.trans this.symm)
      have e2 : cutD (namesT ns) none (some (i : Int)) = some (namesT (ns.take i)) := by
        unfold namesT
        rw [cutD_tup, cut_take (by simp; omega), List.map_take]
      have e3 := in_names (T := tab0) (M := M) (ns := ns.take i) (a := x) (fun s hs => h.nm s (List.mem_of_mem_take hs)) (nameC_ok hn)
      simp [turn, is_name_eq (Nat.le_trans (nameC_len hn) (by decide)), hn, e2, e3, hnot, h6]
      exact hold ⟨rfl, _, _, rfl⟩
    · rintro Γ M ⟨rfl, s1, s2, rfl⟩
      simp
  obtain ⟨a, M', e, rfl, rfl⟩ := key.ex
  exact e

/-! ### ties -/
theorem at_cast {α : Type} {xs : List α} : atI xs ((0 : Nat) : Int) = atI xs 0 := rfl
theorem is_tie_eq {M : Mem} {ns : List Cs} {t : Cs × Cs} (h : ∀ s ∈ ns, nameC s = true) (h1 : okC t.1 = true) (h2 : okC t.2 = true) : F_is_tie [tieD t, namesT ns] M = .ok (.bl (decide (t.1 ∈ ns) && decide (t.2 ∈ ns))) M := by
  have key : wp (F_is_tie [tieD t, namesT ns] M) fun d M' => d = .bl (decide (t.1 ∈ ns) && decide (t.2 ∈ ns)) ∧ M' = M := by
    unfold F_is_tie ir_is_tie
    refine fn_wp rfl ?_
    have e1 := in_names (T := tab0) (M := M) h h1
    have e2 := in_names (T := tab0) (M := M) h h2
    simp [start0, tieD, isB, e1, e2]
    split <;> simp [*]
  obtain ⟨a, M', e, rfl, rfl⟩ := key.ex
  exact e
/-- the other way round -/
def swp (t : Cs × Cs) : Cs × Cs := (t.2, t.1)
theorem pl_tie {t : Cs × Cs} (h1 : okC t.1 = true) (h2 : okC t.2 = true) : pl 8 (tieD t) = true := by
  simp [tieD, pl, okC] at *
  exact ⟨h1, h2⟩
theorem eq_tie (s t : Cs × Cs) : eqD (tieD s) (tieD t) = decide (s = t) := by
  show (decide (s.1 = t.1) && (decide (s.2 = t.2) && true)) = _
  rw [Bool.and_true, ← Bool.decide_and]
  apply decide_eq_decide.mpr
  exact ⟨fun h => Prod.ext h.1 h.2, fun h => by rw [h]; exact ⟨rfl, rfl⟩⟩
/-- texts within -/
def okT (t : Cs × Cs) : Prop := okC t.1 = true ∧ okC t.2 = true
theorem in_ties {T : Tab} {M : Mem} {ts : List (Cs × Cs)} {t : Cs × Cs} (ht : okT t) (h : ∀ s ∈ ts, okT s) : pIn T [tieD t, tiesT ts] M = .ok (.bl (decide (t ∈ ts))) M := by
  unfold tiesT
  rw [in_tup, inL_map (g := tieD) (pl_tie ht.1 ht.2) (fun y hy => pl_tie (h y hy).1 (h y hy).2) eq_tie]
  simp
/-- among ties, in either order -/
def told (ts : List (Cs × Cs)) (t : Cs × Cs) : Bool := decide (t ∈ ts) || decide (swp t ∈ ts)
theorem is_told_eq {M : Mem} {ts : List (Cs × Cs)} {t : Cs × Cs} (ht : okT t) (h : ∀ s ∈ ts, okT s) : F_is_told [tiesT ts, tieD t] M = .ok (.bl (told ts t)) M := by
  have key : wp (F_is_told [tiesT ts, tieD t] M) fun d M' => d = .bl (told ts t) ∧ M' = M := by
    unfold F_is_told ir_is_told
    refine fn_wp rfl ?_
    have e1 := in_ties (T := tab0) (M := M) ht h
    have e2 := in_ties (T := tab0) (M := M) (t := swp t) ⟨ht.2, ht.1⟩ h
    have e3 : tieD (swp t) = .tup [.str t.2, .str t.1] := rfl
    rw [e3] at e2
    simp [start0, e1]
    cases hd : decide (t ∈ ts) with
    | true => simp at hd; simp [told, hd]
    | false =>
      simp at hd
      simp [hd, tieD, e2, told]
  obtain ⟨a, M', e, rfl, rfl⟩ := key.ex
  exact e
/-- ties as a rule may have them -/
structure Ties (ns : List Cs) (ts : List (Cs × Cs)) : Prop where
  mem : ∀ t ∈ ts, t.1 ∈ ns ∧ t.2 ∈ ns
  pw : ts.Pairwise fun s t => s ≠ t ∧ s ≠ swp t
theorem Ties.ok {ns : List Cs} {ts : List (Cs × Cs)} (k : ∀ s ∈ ns, nameC s = true) (h : Ties ns ts) : ∀ t ∈ ts, okT t := fun t ht => ⟨nameC_ok (k _ (h.mem t ht).1), nameC_ok (k _ (h.mem t ht).2)⟩
theorem wrong_tie_ok {M : Mem} {ns : List Cs} {ts : List (Cs × Cs)} (hk : ∀ s ∈ ns, nameC s = true) (h : Ties ns ts) : F_wrong_tie [tiesT ts, namesT ns] M = .ok .non M := by
  have key : wp (F_wrong_tie [tiesT ts, namesT ns] M) fun d M' => d = .non ∧ M' = M := by
    unfold F_wrong_tie ir_wrong_tie
    refine fn_wp rfl ?_
    refine go_for (isV (fun d => d = .lst (ts.zipIdx.map fun p => .tup [.int (p.2 : Nat), tieD p.1])) M) ?_ ?_
    · have := enumL_map tieD ts 0
      simp [start0, tiesT]
      exact hold ⟨rfl, by simpa using this⟩
    rintro d M' ⟨rfl, rfl⟩
    simp only [forS, items_lst]
    refine for_map (fun j Γ M => M = M' ∧ ∃ s1 s2, Γ = [.val (tiesT ts), .val (namesT ns), s1, s2]) ts.zipIdx _ _ ⟨rfl, _, _, rfl⟩ ?_ ?_
    · rintro j ⟨x, i⟩ Γ M hx ⟨rfl, s1, s2, rfl⟩
      obtain ⟨rfl, hx⟩ := zip_at hx
      have hj : i < ts.length := (List.getElem?_eq_some_iff.mp hx).1
      have hm : x ∈ ts := List.mem_of_getElem? hx
      obtain ⟨m1, m2⟩ := h.mem x hm
      have ho := h.ok hk x hm
      have hnot : told (ts.take i) x = false := by
        have nin : ∀ y ∈ ts.take i, y ≠ x ∧ y ≠ swp x := fun y hy => by
          obtain ⟨q, hq, e⟩ := List.getElem_of_mem hy
          rw [List.getElem_take] at e
          rw [List.length_take] at hq
          have e2 := (List.getElem?_eq_some_iff.mp hx).2
          have := List.pairwise_iff_getElem.mp h.pw q i (by omega) hj (by omega)
          rw [e, e2] at this
          exact this
        unfold told
        simp
        exact ⟨fun hc => (nin _ hc).1 rfl, fun hc => (nin _ hc).2 rfl⟩
      have e2 : cutD (tiesT ts) none (some (i : Int)) = some (tiesT (ts.take i)) := by
        unfold tiesT
        rw [cutD_tup, cut_take (by simp; omega), List.map_take]
      have e3 := is_told_eq (M := M) (ts := ts.take i) (t := x) ho (fun s hs => h.ok hk s (List.mem_of_mem_take hs))
      have e4 := is_tie_eq (M := M) (ns := ns) (t := x) hk ho.1 ho.2
      simp [turn, e4, m1, m2, e2, e3, hnot]
      exact hold ⟨rfl, _, _, rfl⟩
    · rintro Γ M ⟨rfl, s1, s2, rfl⟩
      simp
  obtain ⟨a, M', e, rfl, rfl⟩ := key.ex
  exact e
theorem check_kinds_ok {M : Mem} {ns : List Cs} (h : Kinds ns) : F_check_new_kinds [namesT ns] M = .ok .non M := by
  have key : wp (F_check_new_kinds [namesT ns] M) fun d M' => d = .non ∧ M' = M := by
    unfold F_check_new_kinds ir_check_new_kinds
    refine fn_wp rfl ?_
    have hp := h.pos
    have hp2 : ¬ (ns = []) := fun e => by rw [e] at hp; simp at hp
    have e := wrong_kind_ok (M := M) h
    simp only [namesT] at e ⊢
    simp [start0, isB, hp2, e]
  obtain ⟨a, M', e, rfl, rfl⟩ := key.ex
  exact e
theorem check_ties_ok {M : Mem} {ns : List Cs} {ts : List (Cs × Cs)} (hk : ∀ s ∈ ns, nameC s = true) (h : Ties ns ts) : F_check_ties [tiesT ts, namesT ns] M = .ok .non M := by
  have key : wp (F_check_ties [tiesT ts, namesT ns] M) fun d M' => d = .non ∧ M' = M := by
    unfold F_check_ties ir_check_ties
    refine fn_wp rfl ?_
    have e := wrong_tie_ok (M := M) hk h
    have e2 : isB "tuple" (tiesT ts) = some true := rfl
    simp [start0, e2, e]
  obtain ⟨a, M', e, rfl, rfl⟩ := key.ex
  exact e
/-- a kind's place -/
def place (ns : List Cs) (a : Cs) : Nat := ns.idxOf a
theorem filter_head {ns : List Cs} {a : Cs} : ∀ (ns : List Cs) (i : Nat), a ∈ ns → ∃ L, (ns.zipIdx i).filter (fun p => decide (p.1 = a)) = (a, i + ns.idxOf a) :: L
  | [], _, h => by cases h
  | x :: ns, i, h => by
    rw [List.zipIdx_cons, List.filter_cons, List.idxOf_cons]
    by_cases e : x = a
    · subst e
      simp
    · have hm : a ∈ ns := by
        rcases List.mem_cons.mp h with r | r
        · exact absurd r.symm e
        · exact r
      obtain ⟨L, hL⟩ := filter_head (ns := ns) ns (i + 1) hm
      have e2 : (x == a) = false := by simpa using e
      simp only [e, decide_false, Bool.false_eq_true, if_false, hL, e2, cond_false]
      exact ⟨L, by simp; omega⟩
theorem cmp_str {s t : Cs} (h1 : okC s = true) (h2 : okC t = true) : cmp (.str s) (.str t) = some (decide (s = t)) := by
  rfl
theorem place_of_eq {M : Mem} {ns : List Cs} {a : Cs} (hk : ∀ s ∈ ns, nameC s = true) (h : a ∈ ns) : F_place_of [namesT ns, .str a] M = .ok (.int (place ns a)) M := by
  have key : wp (F_place_of [namesT ns, .str a] M) fun d M' => d = .int (place ns a) ∧ M' = M := by
    unfold F_place_of ir_place_of
    refine fn_wp rfl ?_
    have e0 : pEnum [namesT ns] M = .ok (.lst (ns.zipIdx.map fun p => .tup [.int (p.2 : Nat), .str p.1])) M := by
      have := enumL_map D.str ns 0
      unfold namesT
      rw [enum_tup]
      simpa using this
    have e1 : compS [2, 3] (.t [2, 3]) (.app (pEq tab0) (.cons (.var 3) (.cons (.var 1) .nil))) (.var 2) (.lst (ns.zipIdx.map fun p => .tup [.int (p.2 : Nat), .str p.1])) [.val (namesT ns), .val (.str a), .no, .no] M = .ok (.lst ((ns.zipIdx.filter fun p => decide (p.1 = a)).map fun p => .int (p.2 : Nat))) M := by
      refine compS_filter (g := fun p : Cs × Nat => D.tup [.int (p.2 : Nat), .str p.1]) (fun p => decide (p.1 = a)) (fun p => .int (p.2 : Nat)) rfl fun p hp => ?_
      have hm : p.1 ∈ ns := by
        obtain ⟨j, hj⟩ := List.getElem?_of_mem hp
        exact List.mem_of_getElem? (zip_at (x := p.1) (i := p.2) hj).2
      have e : pEq tab0 [.str p.1, .str a] M = .ok (.bl (decide (p.1 = a))) M := by
        show optB (cmp (.str p.1) (.str a)) M = _
        rw [cmp_str (nameC_ok (hk _ hm)) (nameC_ok (hk _ h))]; rfl
      simp [turn1, e]
      split <;> rfl
    obtain ⟨L, hL⟩ := filter_head (ns := ns) ns 0 h
    rw [hL] at e1
    simp [start0, e0, e1, place]
  obtain ⟨b, M', e, rfl, rfl⟩ := key.ex
  exact e
end Pk

set_option Elab.async false
set_option linter.all false
set_option autoImplicit false
set_option maxRecDepth 100000
set_option maxHeartbeats 1000000
/-! Nets: sets of kinds and their cuts, as the program reckons them. -/
namespace Pk
/-! ### ints -/
def iT (l : List Int) : D := .tup (l.map .int)
def iP (p : Int × Int) : D := .tup [.int p.1, .int p.2]
def pT (ps : List (Int × Int)) : D := .tup (ps.map iP)
theorem inL_ints {a : Int} {l : List Int} : inL (.int a) (l.map .int) = some (decide (a ∈ l)) := by
  rw [inL_map (g := D.int) rfl (fun _ _ => rfl) (fun _ _ => rfl)]
theorem in_iT {T : Tab} {M : Mem} {a : Int} {l : List Int} : pIn T [.int a, iT l] M = .ok (.bl (decide (a ∈ l))) M := by
  unfold iT
  rw [in_tup, inL_ints]; rfl
theorem in_iL {T : Tab} {M : Mem} {a : Int} {l : List Int} : pIn T [.int a, .lst (l.map .int)] M = .ok (.bl (decide (a ∈ l))) M := by
  rw [in_lst, inL_ints]; rfl
theorem ints_map : ∀ l : List Int, Pk.intsL (l.map .int) = some l
  | [] => rfl
  | a :: l => by
    show (match Pk.intsL (l.map .int) with
      | some is => some (a :: is)
      | none => none) = _
    rw [ints_map l]
theorem sortset_eq {M : Mem} {l : List Int} (h : l.length < 64) : pSortSet [.lst (l.map .int)] M = .ok (.lst ((sortI (dedI l)).map .int)) M := by
  show (match Pk.intsL (l.map .int) with
    | some is => if is.length < 64 then Res.ok (D.lst ((sortI (dedI is)).map .int)) M else .stuck
    | none => .stuck) = _
  rw [ints_map]
  exact if_pos h
theorem mem_insSort {x y : Int} : ∀ {l : List Int}, y ∈ insSort x l ↔ y = x ∨ y ∈ l
  | [] => by simp [insSort]
  | z :: l => by
    unfold insSort
    split
    · simp
    · simp [mem_insSort (l := l)]
      constructor
      · rintro (h | h | h) <;> simp [h]
      · rintro (h | h | h) <;> simp [h]
theorem mem_sortI {y : Int} : ∀ {l : List Int}, y ∈ sortI l ↔ y ∈ l
  | [] => Iff.rfl
  | x :: l => by unfold sortI; rw [mem_insSort, mem_sortI, List.mem_cons]
theorem nodup_insSort {x : Int} : ∀ {l : List Int}, l.Nodup → x ∉ l → (insSort x l).Nodup
  | [], _, _ => by simp [insSort]
  | z :: l, h, hx => by
    have h := List.nodup_cons.mp h
    have hx : x ≠ z ∧ x ∉ l := by simpa using hx
    unfold insSort
    split
    · refine List.nodup_cons.mpr ⟨by simpa using hx, List.nodup_cons.mpr h⟩
    · refine List.nodup_cons.mpr ⟨fun hc => ?_, nodup_insSort h.2 hx.2⟩
      rcases mem_insSort.mp hc with e | e
      · exact hx.1 e.symm
      · exact h.1 e
theorem nodup_sortI : ∀ {l : List Int}, l.Nodup → (sortI l).Nodup
  | [], _ => List.nodup_nil
  | x :: l, h => by
    have h := List.nodup_cons.mp h
    exact nodup_insSort (nodup_sortI h.2) fun hc => h.1 (mem_sortI.mp hc)
theorem mem_dedI {y : Int} : ∀ {l : List Int}, y ∈ dedI l ↔ y ∈ l
  | [] => Iff.rfl
  | x :: l => by
    unfold dedI
    rw [List.mem_cons, List.mem_filter, mem_dedI, List.mem_cons]
    by_cases e : y = x
    · simp [e]
    · simp [e]
theorem nodup_dedI : ∀ {l : List Int}, (dedI l).Nodup
  | [] => List.nodup_nil
  | x :: l => by
    unfold dedI
    refine List.nodup_cons.mpr ⟨fun hc => ?_, nodup_dedI.filter _⟩
    have := (List.mem_filter.mp hc).2
    simp at this
/-! ### sets -/
def subsL : Nat → List (List Int)
  | 0 => [[]]
  | n + 1 => subsL n ++ (subsL n).map fun l => l ++ [(n : Int)]
theorem subsL_len : ∀ n, (subsL n).length = 2 ^ n
  | 0 => rfl
  | n + 1 => by unfold subsL; rw [List.length_append, List.length_map, subsL_len n, Nat.pow_succ]; omega
theorem subsL_row : ∀ {n : Nat} {l : List Int}, l ∈ subsL n → l.length ≤ n
  | 0, l, h => by simp [subsL] at h; simp [h]
  | n + 1, l, h => by
    unfold subsL at h
    rcases List.mem_append.mp h with h | h
    · exact Nat.le_succ_of_le (subsL_row h)
    · obtain ⟨l', hl, rfl⟩ := List.mem_map.mp h
      have := subsL_row hl
      simp; omega
theorem subsets_eq {M : Mem} {n : Nat} (hn : n ≤ 6) : F_subsets [.int n] M = .ok (.lst ((subsL n).map iT)) M := by
  have key : wp (F_subsets [.int n] M) fun d M' => d = .lst ((subsL n).map iT) ∧ M' = M := by
    unfold F_subsets ir_subsets
    refine fn_wp rfl ?_
    refine go_mid (fun Γ M' => M' = M ∧ Γ = [.val (.int n), .val (.lst ((subsL 0).map iT)), .no, .no]) (by simp [start0]; exact hold ⟨rfl, rfl⟩) ?_
    rintro Γ M' ⟨rfl, rfl⟩
    refine go_for (isV (fun d => d = .lst ((List.range n).map fun j : Nat => .int (0 + (j : Int)))) M') ?_ ?_
    · simp [rangeL_map, lim]
      exact ⟨by omega, hold ⟨rfl, by simp⟩⟩
    rintro d M ⟨rfl, rfl⟩
    simp only [forS, items_lst]
    refine for_map (fun j Γ M' => M' = M ∧ ∃ s2, Γ = [.val (.int n), .val (.lst ((subsL j).map iT)), s2, .no]) (List.range n) _ _ ⟨rfl, _, rfl⟩ ?_ ?_
    · rintro j x Γ M' hx ⟨rfl, s2, rfl⟩
      have hj : j < n := by
        have := (List.getElem?_eq_some_iff.mp hx).1
        simpa using this
      have hxj : x = j := by
        rw [List.getElem?_range hj] at hx
        exact (Option.some.inj hx).symm
      subst hxj
      have e1 : compS [3] (.n 3) (.const (.bl true)) (.app (pAdd tab0) (.cons (.var 3) (.cons (.app pTup (.cons (.var 2) .nil)) .nil))) (.lst ((subsL x).map iT)) [.val (.int n), .val (.lst ((subsL x).map iT)), .val (.int x), .no] M' = .ok (.lst (((subsL x).map fun l => l ++ [(x : Int)]).map iT)) M' := by
        rw [List.map_map]
        refine compS_map (g := iT) _ rfl fun l hl => ?_
        have := subsL_row hl
        have hlim : l.length + 1 ≤ lim := by unfold lim; omega
        simp [turn1, iT, hlim]
      have h2 : 2 ^ x ≤ 2 ^ 6 := Nat.pow_le_pow_right (by omega) (by omega)
      have e2 : ((subsL x).map iT).length + (((subsL x).map fun l => l ++ [(x : Int)]).map iT).length ≤ lim := by
        simp only [List.length_map, subsL_len]
        unfold lim; omega
      simp [turn]
      simp only [e1, wp_ok]
      rw [add_lst, if_pos e2]
      simp
      exact hold ⟨rfl, .val (.int x), by simp [subsL]⟩
    · rintro Γ M' ⟨rfl, s2, rfl⟩
      simp
  obtain ⟨a, M', e, rfl, rfl⟩ := key.ex
  exact e
/-! ### what lies near -/
def flip (p : Int × Int) : Int × Int := (p.2, p.1)
def freeL (ps : List (Int × Int)) (ch : List Int) : List (Int × Int) := ps.filter fun p => !decide (p.1 ∈ ch) && !decide (p.2 ∈ ch)
def bothL (ps : List (Int × Int)) (ch : List Int) : List (Int × Int) := freeL ps ch ++ (freeL ps ch).map flip
def outs (n : Nat) (ch : List Int) : List Int := ((List.range n).map fun k : Nat => (k : Int)).filter fun a => !decide (a ∈ ch)
def nearL (bs : List (Int × Int)) (a : Int) : List Int := (bs.filter fun p => decide (p.1 = a)).map (·.2)
def nearD (n : Nat) (ps : List (Int × Int)) (ch : List Int) : D := .dict ((outs n ch).map .int) ((outs n ch).map fun a => .lst ((nearL (bothL ps ch) a).map .int))
theorem put_new {k : Int} {v : D} {ks : List Int} {vs : List D} (h : k ∉ ks) : dictPut (.int k) v (ks.map .int) vs = ((ks ++ [k]).map .int, vs ++ [v]) := by
  unfold dictPut
  rw [if_neg]
  · simp
  · simp [keyEq]
    exact h
theorem put_all {α : Type} (k : α → Int) (v : α → D) : ∀ (L : List α) (ks : List Int) (vs : List D), (ks ++ L.map k).Nodup → (L.map fun x => D.tup [.int (k x), v x]).foldl putPair (ks.map .int, vs) = ((ks ++ L.map k).map .int, vs ++ L.map v)
  | [], ks, vs, _ => by simp
  | x :: L, ks, vs, h => by
    rw [List.map_cons, List.foldl_cons]
    have hx : k x ∉ ks := fun hc => by
      have := List.nodup_append.mp h
      exact this.2.2 (k x) hc (k x) (by simp) rfl
    show (L.map fun x => D.tup [.int (k x), v x]).foldl putPair (dictPut (.int (k x)) (v x) (ks.map .int) vs) = _
    rw [put_new hx, put_all k v L (ks ++ [k x]) (vs ++ [v x]) (by simpa using h)]
    simp
theorem outs_nodup {n : Nat} {ch : List Int} : (outs n ch).Nodup := (List.Pairwise.map _ (fun a b hab e => hab (by omega)) List.nodup_range).filter _
theorem near_eq {M : Mem} {n : Nat} {ps : List (Int × Int)} {ch : List Int} (hn : n ≤ 6) (hp : ps.length ≤ 21) : F_near_outside [.int n, pT ps, iT ch] M = .ok (nearD n ps ch) M := by
  have key : wp (F_near_outside [.int n, pT ps, iT ch] M) fun d M' => d = nearD n ps ch ∧ M' = M := by
    unfold F_near_outside ir_near_outside
    refine fn_wp rfl ?_
    refine go_mid (fun Γ M' => M' = M ∧ Γ = [.val (.int n), .val (pT ps), .val (iT ch), .val (.lst ((freeL ps ch).map iP)), .no, .no, .no]) ?_ ?_
    · have e1 : compS [4, 5] (.t [4, 5]) (.andV (.app (pNotIn tab0) (.cons (.var 4) (.cons (.var 2) .nil))) (.app (pNotIn tab0) (.cons (.var 5) (.cons (.var 2) .nil)))) (.app pTup (.cons (.var 4) (.cons (.var 5) .nil))) (pT ps) [.val (.int n), .val (pT ps), .val (iT ch), .no, .no, .no, .no] M = .ok (.lst ((freeL ps ch).map iP)) M := by
        refine compS_filter (g := iP) (fun p => !decide (p.1 ∈ ch) && !decide (p.2 ∈ ch)) iP rfl fun p hp => ?_
        simp [turn1, iP, notIn_def, in_iT]
        by_cases h1 : p.1 ∈ ch <;> by_cases h2 : p.2 ∈ ch <;> simp [h1, h2]
      simp [start0, e1]
      exact hold ⟨rfl, rfl⟩
    rintro Γ M' ⟨rfl, rfl⟩
    refine go_mid (fun Γ M => M = M' ∧ Γ = [.val (.int n), .val (pT ps), .val (iT ch), .val (.lst ((bothL ps ch).map iP)), .no, .no, .no]) ?_ ?_
    · have e1 : compS [4, 5] (.t [4, 5]) (.const (.bl true)) (.app pTup (.cons (.var 5) (.cons (.var 4) .nil))) (.lst ((freeL ps ch).map iP)) [.val (.int n), .val (pT ps), .val (iT ch), .val (.lst ((freeL ps ch).map iP)), .no, .no, .no] M' = .ok (.lst (((freeL ps ch).map flip).map iP)) M' := by
        rw [List.map_map]
        refine compS_map (g := iP) _ rfl fun p hp => ?_
        simp [turn1, iP, flip]
      have hl : ((freeL ps ch).map iP).length + (((freeL ps ch).map flip).map iP).length ≤ lim := by
        have := List.length_filter_le (fun p : Int × Int => !decide (p.1 ∈ ch) && !decide (p.2 ∈ ch)) ps
        simp only [List.length_map, freeL]
        unfold lim; omega
      simp only [evS_n, ev_app, evs_cons, evs_nil, ev_var, ev_comp, wpS_vS, wp_bnd, vAt_def, slot0, slotS, get_val, wp_ok, e1, add_lst, if_pos hl, wpS_next]
      exact hold ⟨rfl, by simp [bothL]⟩
    rintro Γ M ⟨rfl, rfl⟩
    have e2 : compL (turnK [6] (.n 6) (.app (pNotIn tab0) (.cons (.var 6) (.cons (.var 2) .nil))) (.var 6) (.comp [4, 5] (.t [4, 5]) (.var 3) (.app (pEq tab0) (.cons (.var 4) (.cons (.var 6) .nil))) (.var 5)) [.val (.int n), .val (pT ps), .val (iT ch), .val (.lst ((bothL ps ch).map iP)), .no, .no, .no]) ((List.range n).map fun j : Nat => D.int ((j : Int))) M = .ok ((outs n ch).map fun a => D.tup [.int a, .lst ((nearL (bothL ps ch) a).map .int)]) M := by
      rw [comp_pure (g := fun j : Nat => D.int (j : Int)) (fun j : Nat => if (!decide ((j : Int) ∈ ch)) = true then [D.tup [.int (j : Int), .lst ((nearL (bothL ps ch) j).map .int)]] else []) M (List.range n) fun j hj => ?_]
      · rw [flatMap_if (fun j : Nat => !decide ((j : Int) ∈ ch)) (fun j : Nat => D.tup [.int (j : Int), .lst ((nearL (bothL ps ch) j).map .int)])]
        congr 1
        unfold outs
        rw [List.filter_map, List.map_map]
        rfl
      · have e3 : compS [4, 5] (.t [4, 5]) (.app (pEq tab0) (.cons (.var 4) (.cons (.var 6) .nil))) (.var 5) (.lst ((bothL ps ch).map iP)) [.val (.int n), .val (pT ps), .val (iT ch), .val (.lst ((bothL ps ch).map iP)), .no, .no, .val (.int j)] M = .ok (.lst ((nearL (bothL ps ch) j).map .int)) M := by
          unfold nearL
          rw [List.map_map]
          refine compS_filter (g := iP) (fun p => decide (p.1 = (j : Int))) _ rfl fun p hp => ?_
          simp [turn1, iP]
          split <;> rfl
        simp [turnK, notIn_def, in_iT]
        split
        · rfl
        · simp [isKey, e3]
    have e4 := put_all (fun a : Int => a) (fun a => D.lst ((nearL (bothL ps ch) a).map .int)) (outs n ch) [] [] (by simpa using outs_nodup)
    simp only [List.map_nil, List.nil_append, List.map_id'] at e4
    simp [lim, compK, rangeL_map, e2, e4]
    exact ⟨by omega, rfl⟩
  obtain ⟨a, M', e, rfl, rfl⟩ := key.ex
  exact e

/-! ### lumps -/
theorem mem_outs {n : Nat} {ch : List Int} {a : Int} : a ∈ outs n ch ↔ (0 ≤ a ∧ a < n) ∧ a ∉ ch := by
  unfold outs
  rw [List.mem_filter, List.mem_map]
  constructor
  · rintro ⟨⟨k, hk, rfl⟩, h⟩
    have := List.mem_range.mp hk
    exact ⟨⟨by omega, by omega⟩, by simpa using h⟩
  · rintro ⟨⟨h1, h2⟩, h⟩
    obtain ⟨k, rfl⟩ := Int.eq_ofNat_of_zero_le h1
    exact ⟨⟨k, List.mem_range.mpr (by omega), rfl⟩, by simpa using h⟩
theorem outs_len {n : Nat} {ch : List Int} : (outs n ch).length ≤ n := by
  have := List.length_filter_le (fun a : Int => !decide (a ∈ ch)) ((List.range n).map fun k : Nat => (k : Int))
  simpa [outs] using this
theorem filt_len {α : Type} (p : α → Bool) : ∀ l : List α, (l.filter p).length + (l.filter fun x => !p x).length = l.length
  | [] => rfl
  | x :: l => by
    have := filt_len p l
    rw [List.filter_cons, List.filter_cons]
    cases p x <;> simp <;> omega
theorem flatMap_same {α β : Type} {f g : α → List β} : ∀ {l : List α}, (∀ x ∈ l, f x = g x) → l.flatMap f = l.flatMap g
  | [], _ => rfl
  | x :: l, h => by rw [List.flatMap_cons, List.flatMap_cons, h x List.mem_cons_self, flatMap_same fun y hy => h y (List.mem_cons_of_mem _ hy)]
theorem near_sum : ∀ (f : List Int) (bs : List (Int × Int)), f.Nodup → (f.flatMap (nearL bs)).length ≤ bs.length
  | [], bs, _ => by simp
  | a :: f, bs, h => by
    have h := List.nodup_cons.mp h
    have e : f.flatMap (nearL bs) = f.flatMap (nearL (bs.filter fun p => !decide (p.1 = a))) := by
      have : ∀ b ∈ f, nearL bs b = nearL (bs.filter fun p => !decide (p.1 = a)) b := fun b hb => by
        unfold nearL
        rw [List.filter_filter]
        congr 1
        apply List.filter_congr
        intro p _
        by_cases e : p.1 = b
        · have : ¬ p.1 = a := fun e2 => h.1 (by rw [← e2, e]; exact hb)
          simp [e, this]
          exact fun e2 => this (e.trans e2)
        · simp [e]
      exact flatMap_same this
    rw [List.flatMap_cons, List.length_append, e]
    have h1 := near_sum f (bs.filter fun p => !decide (p.1 = a)) h.2
    have h2 := filt_len (fun p : Int × Int => decide (p.1 = a)) bs
    have h3 : (nearL bs a).length = (bs.filter fun p => decide (p.1 = a)).length := by simp [nearL]
    omega
def stepL (bs : List (Int × Int)) (f : List Int) : List Int := sortI (dedI (f ++ f.flatMap (nearL bs)))
def lumpN (bs : List (Int × Int)) (f : List Int) : Nat → List Int
  | 0 => f
  | k + 1 => stepL bs (lumpN bs f k)
/-- pairs of indexes below n -/
def Below (n : Nat) (ps : List (Int × Int)) : Prop := ∀ p ∈ ps, (0 ≤ p.1 ∧ p.1 < n) ∧ 0 ≤ p.2 ∧ p.2 < n
theorem near_in {n : Nat} {ps : List (Int × Int)} {ch : List Int} {a b : Int} (hp : Below n ps) (h : b ∈ nearL (bothL ps ch) a) : b ∈ outs n ch := by
  unfold nearL at h
  obtain ⟨p, hm, rfl⟩ := List.mem_map.mp h
  have hm := (List.mem_filter.mp hm).1
  have key : ∀ q ∈ freeL ps ch, q.1 ∈ outs n ch ∧ q.2 ∈ outs n ch := fun q hq => by
    obtain ⟨h1, h2⟩ := List.mem_filter.mp hq
    have := hp q h1
    simp at h2
    exact ⟨mem_outs.mpr ⟨this.1, h2.1⟩, mem_outs.mpr ⟨this.2, h2.2⟩⟩
  rcases List.mem_append.mp hm with hm | hm
  · exact (key p hm).2
  · obtain ⟨q, hq, rfl⟩ := List.mem_map.mp hm
    exact (key q hq).1
/-- found so far: within, each once -/
structure Fnd (n : Nat) (ch f : List Int) : Prop where
  nd : f.Nodup
  sub : ∀ a ∈ f, a ∈ outs n ch
theorem Fnd.step {n : Nat} {ps : List (Int × Int)} {ch f : List Int} (hp : Below n ps) (h : Fnd n ch f) : Fnd n ch (stepL (bothL ps ch) f) := by
  refine ⟨nodup_sortI nodup_dedI, fun a ha => ?_⟩
  have ha := mem_dedI.mp (mem_sortI.mp ha)
  rcases List.mem_append.mp ha with ha | ha
  · exact h.sub a ha
  · obtain ⟨b, _, hb⟩ := List.mem_flatMap.mp ha
    exact near_in hp hb
theorem lumpN_fnd {n : Nat} {ps : List (Int × Int)} {ch : List Int} {a : Int} (hp : Below n ps) (ha : a ∈ outs n ch) : ∀ k, Fnd n ch (lumpN (bothL ps ch) [a] k)
  | 0 => ⟨by simp [lumpN], fun b hb => by rw [List.mem_singleton.mp hb]; exact ha⟩
  | k + 1 => (lumpN_fnd hp ha k).step hp
theorem dictGet_map {f : Int → D} {a : Int} : ∀ {l : List Int}, a ∈ l → dictGet (.int a) (l.map .int) (l.map f) = some (f a)
  | x :: l, h => by
    rw [List.map_cons, List.map_cons]
    unfold dictGet
    by_cases e : x = a
    · subst e; simp [keyEq]
    · have : a ∈ l := by
        rcases List.mem_cons.mp h with r | r
        · exact absurd r.symm e
        · exact r
      simp [keyEq, e, dictGet_map this]
theorem compS2_pure {α : Type} {g : α → D} {own : List Nat} {tg : Tg} {c : Ex} {own2 : List Nat} {tg2 : Tg} {it2 c2 el : Ex} {Γ : Env} {M : Mem} {d : D} {xs : List α} (y : α → List D) (hd : items d = some (xs.map g)) (h : ∀ x ∈ xs, turn2 own tg c own2 tg2 it2 c2 el Γ (g x) M = .ok (y x) M)
    (hl : (xs.flatMap y).length ≤ 1000000) : compS2 own tg c own2 tg2 it2 c2 el d Γ M = .ok (.lst (xs.flatMap y)) M := by
  unfold compS2
  rw [hd]
  show noErr (bnd (compL (turn2 own tg c own2 tg2 it2 c2 el Γ) (xs.map g) M) _) = _
  rw [comp_pure y M xs h, bnd_ok, if_pos hl]
  rfl
theorem both_len {ps : List (Int × Int)} {ch : List Int} : (bothL ps ch).length ≤ 2 * ps.length := by
  have := List.length_filter_le (fun p : Int × Int => !decide (p.1 ∈ ch) && !decide (p.2 ∈ ch)) ps
  simp [bothL, freeL]; omega
theorem lump_eq {M : Mem} {n : Nat} {ps : List (Int × Int)} {ch : List Int} {a : Int} (hn : n ≤ 6) (hl : ps.length ≤ 21) (hp : Below n ps) (ha : a ∈ outs n ch) : F_lump_around [nearD n ps ch, .int a] M = .ok (iT (lumpN (bothL ps ch) [a] (outs n ch).length)) M := by
  have key : wp (F_lump_around [nearD n ps ch, .int a] M) fun d M' => d = iT (lumpN (bothL ps ch) [a] (outs n ch).length) ∧ M' = M := by
    unfold F_lump_around ir_lump_around
    refine fn_wp rfl ?_
    refine go_mid (fun Γ M' => M' = M ∧ Γ = [.val (nearD n ps ch), .val (.int a), .val (.lst ([a].map .int)), .no, .no, .no]) (by simp [start0]; exact hold ⟨rfl, rfl⟩) ?_
    rintro Γ M' ⟨rfl, rfl⟩
    refine go_for (isV (fun d => d = .lst ((List.range (outs n ch).length).map fun j : Nat => .int (0 + (j : Int)))) M') ?_ ?_
    · have := outs_len (n := n) (ch := ch)
      simp [nearD, rangeL_map, lim]
      exact ⟨by omega, hold ⟨rfl, by simp⟩⟩
    rintro d M ⟨rfl, rfl⟩
    simp only [forS, items_lst]
    refine for_map (fun j Γ M' => M' = M ∧ ∃ s3, Γ = [.val (nearD n ps ch), .val (.int a), .val (.lst ((lumpN (bothL ps ch) [a] j).map .int)), s3, .no, .no]) (List.range (outs n ch).length) _ _ ⟨rfl, _, rfl⟩ ?_ ?_
    · rintro j x Γ M' hx ⟨rfl, s3, rfl⟩
      have hf := lumpN_fnd hp ha (ch := ch) j
      generalize hF : lumpN (bothL ps ch) [a] j = f at hf
      have hs := near_sum f (bothL ps ch) hf.nd
      have hb := both_len (ps := ps) (ch := ch)
      have hfl : f.length ≤ (outs n ch).length := erase_sub hf.nd hf.sub
      have hol := outs_len (n := n) (ch := ch)
      have e1 : ∀ s3, compS2 [4, 5] (.n 4) (.const (.bl true)) [5] (.n 5) (.app pIx (.cons (.var 0) (.cons (.var 4) .nil))) (.const (.bl true)) (.var 5) (.lst (f.map .int)) [.val (nearD n ps ch), .val (.int a), .val (.lst (f.map .int)), s3, .no, .no] M' = .ok (.lst ((f.flatMap (nearL (bothL ps ch))).map .int)) M' := fun s3 => by
        rw [List.map_flatMap]
        refine compS2_pure (g := D.int) (fun b => (nearL (bothL ps ch) b).map .int) rfl (fun b hb => ?_) (by rw [← List.map_flatMap, List.length_map]; omega)
        have e2 : compL (turn1 [5] (.n 5) (.const (.bl true)) (.var 5) [.val (nearD n ps ch), .val (.int a), .val (.lst (f.map .int)), s3, .val (.int b), .no]) ((nearL (bothL ps ch) b).map .int) M' = .ok ((nearL (bothL ps ch) b).map .int) M' := by
          rw [comp_pure (g := D.int) (fun z => [D.int z]) M' _ fun z _ => by simp [turn1], flatMap_one]
        simp [turn2, nearD, isKey, dictGet_map (hf.sub b hb)]
        exact e2
      simp [turn]
      simp only [e1, wp_ok]
      have hlim : (f.map D.int).length + ((f.flatMap (nearL (bothL ps ch))).map D.int).length ≤ lim := by
        simp only [List.length_map]; unfold lim; omega
      rw [add_lst, if_pos hlim, ← List.map_append]
      simp only [wp_ok]
      rw [sortset_eq (by rw [List.length_append]; omega)]
      simp
      exact hold ⟨rfl, .val (.int x), by simp [lumpN, stepL, hF]⟩
    · rintro Γ M' ⟨rfl, s3, rfl⟩
      simp [iT]
  obtain ⟨a, M', e, rfl, rfl⟩ := key.ex
  exact e
/-! ### cuts -/
def loneL (n : Nat) (ps : List (Int × Int)) (ch : List Int) : List Int := (outs n ch).filter fun a => decide (nearL (bothL ps ch) a = [])
def lumpF (n : Nat) (ps : List (Int × Int)) (ch : List Int) (acc : List (List Int)) (a : Int) : List (List Int) :=
  if (!decide (a ∈ loneL n ps ch) && !acc.any fun l => decide (a ∈ l)) = true then acc ++ [lumpN (bothL ps ch) [a] (outs n ch).length] else acc
def lumpsL (n : Nat) (ps : List (Int × Int)) (ch : List Int) : List (List Int) := (outs n ch).foldl (lumpF n ps ch) []
def cutDt (n : Nat) (ps : List (Int × Int)) (ch : List Int) : D := .tup [iT ch, iT (loneL n ps ch), .tup ((lumpsL n ps ch).map iT)]
theorem cmp_nil {l : List Int} : cmp (.lst (l.map .int)) (.lst []) = some (decide (l = [])) := by
  have h : (pl 8 (.lst (l.map .int)) && pl 8 (.lst [])) = true := by
    simp [pl]
  rw [cmp_if (by rintro ⟨s, t, e, _⟩; cases e), if_pos h]
  cases l <;> rfl
theorem fold_len (n : Nat) (ps : List (Int × Int)) (ch : List Int) : ∀ (xs : List Int) (acc : List (List Int)), (xs.foldl (lumpF n ps ch) acc).length ≤ acc.length + xs.length
  | [], acc => by simp
  | x :: xs, acc => by
    rw [List.foldl_cons]
    have := fold_len n ps ch xs (lumpF n ps ch acc x)
    have h : (lumpF n ps ch acc x).length ≤ acc.length + 1 := by unfold lumpF; split <;> simp
    simp; omega
theorem cut_of_eq {M : Mem} {n : Nat} {ps : List (Int × Int)} {ch : List Int} (hn : n ≤ 6) (hl : ps.length ≤ 21) (hp : Below n ps) : F_cut_of [.int n, pT ps, iT ch] M = .ok (cutDt n ps ch) M := by
  have key : wp (F_cut_of [.int n, pT ps, iT ch] M) fun d M' => d = cutDt n ps ch ∧ M' = M := by
    unfold F_cut_of ir_cut_of
    refine fn_wp rfl ?_
    refine go_mid (fun Γ M' => M' = M ∧ Γ = [.val (.int n), .val (pT ps), .val (iT ch), .val (nearD n ps ch), .no, .no, .no, .no]) ?_ ?_
    · simp [start0, near_eq hn hl]
      exact hold ⟨rfl, rfl⟩
    rintro Γ M' ⟨rfl, rfl⟩
    refine go_mid (fun Γ M => M = M' ∧ Γ = [.val (.int n), .val (pT ps), .val (iT ch), .val (nearD n ps ch), .val (iT (loneL n ps ch)), .no, .no, .no]) ?_ ?_
    · have e1 : compS [5] (.n 5) (.app (pEq tab0) (.cons (.app pIx (.cons (.var 3) (.cons (.var 5) .nil))) (.cons (.app pLst .nil) .nil))) (.var 5) (nearD n ps ch) [.val (.int n), .val (pT ps), .val (iT ch), .val (nearD n ps ch), .no, .no, .no, .no] M' = .ok (.lst ((loneL n ps ch).map .int)) M' := by
        refine compS_filter (g := D.int) (fun a => decide (nearL (bothL ps ch) a = [])) D.int rfl fun a ha => ?_
        have e : ∀ l : List Int, pEq tab0 [.lst (l.map .int), .lst []] M' = .ok (.bl (decide (l = []))) M' := fun l => by
          show optB (cmp (.lst (l.map .int)) (.lst [])) M' = _
          rw [cmp_nil]; rfl
        have e2 : pIx [nearD n ps ch, .int a] M' = .ok (.lst ((nearL (bothL ps ch) a).map .int)) M' := by
          unfold nearD
          rw [ix_dict, dictGet_map ha]; rfl
        simp [turn1, e2, e]
        split <;> rfl
      simp [e1]
      exact hold ⟨rfl, rfl⟩
    rintro Γ M ⟨rfl, rfl⟩
    refine go_mid (fun Γ M' => M' = M ∧ Γ = [.val (.int n), .val (pT ps), .val (iT ch), .val (nearD n ps ch), .val (iT (loneL n ps ch)), .no, .val (.lst (([] : List (List Int)).map iT)), .no]) (by simp; exact hold ⟨rfl, rfl⟩) ?_
    rintro Γ M' ⟨rfl, rfl⟩
    refine go_for (isV (fun d => d = nearD n ps ch) M') (by simp; exact hold ⟨rfl, rfl⟩) ?_
    rintro d M ⟨rfl, rfl⟩
    have ei : items (nearD n ps ch) = some ((outs n ch).map .int) := rfl
    simp only [forS, ei]
    refine for_map (fun j Γ M' => M' = M ∧ ∃ s5, Γ = [.val (.int n), .val (pT ps), .val (iT ch), .val (nearD n ps ch), .val (iT (loneL n ps ch)), s5, .val (.lst ((((outs n ch).take j).foldl (lumpF n ps ch) []).map iT)), .no]) (outs n ch) _ _ ⟨rfl, _, rfl⟩ ?_ ?_
    · rintro j a Γ M' hx ⟨rfl, s5, rfl⟩
      have hj : j < (outs n ch).length := (List.getElem?_eq_some_iff.mp hx).1
      have hm : a ∈ outs n ch := List.mem_of_getElem? hx
      have et : ((outs n ch).take (j + 1)).foldl (lumpF n ps ch) [] = lumpF n ps ch (((outs n ch).take j).foldl (lumpF n ps ch) []) a := by
        rw [List.take_succ, hx, List.foldl_append]; rfl
      rw [et]
      have hlen : (((outs n ch).take j).foldl (lumpF n ps ch) []).length ≤ 6 := by
        have h1 := fold_len n ps ch ((outs n ch).take j) []
        have h2 := outs_len (n := n) (ch := ch)
        simp at h1; omega
      generalize ((outs n ch).take j).foldl (lumpF n ps ch) [] = acc at hlen
      have e1 : compS [7] (.n 7) (.const (.bl true)) (.app (pIn tab0) (.cons (.var 5) (.cons (.var 7) .nil))) (.lst (acc.map iT)) [.val (.int n), .val (pT ps), .val (iT ch), .val (nearD n ps ch), .val (iT (loneL n ps ch)), .val (.int a), .val (.lst (acc.map iT)), .no] M' = .ok (.lst (acc.map fun l => .bl (decide (a ∈ l)))) M' := by
        refine compS_map (g := iT) (fun l => .bl (decide (a ∈ l))) rfl fun l _ => ?_
        simp [turn1, in_iT]
      have hlim : acc.length + 1 ≤ lim := by unfold lim; omega
      simp [turn, notIn_def, in_iT]
      by_cases h1 : a ∈ loneL n ps ch
      · simp [h1]
        exact hold ⟨rfl, .val (.int a), by simp [lumpF, h1]⟩
      · simp only [h1, if_false, e1, wp_ok, any_map]
        cases h2 : acc.any fun l => decide (a ∈ l) with
        | true =>
          simp
          exact hold ⟨rfl, .val (.int a), by simp [lumpF, h2]⟩
        | false =>
          simp [lump_eq hn hl hp hm, hlim]
          exact hold ⟨rfl, .val (.int a), by simp [lumpF, h2, h1]⟩
    · rintro Γ M' ⟨rfl, s5, rfl⟩
      simp [cutDt, lumpsL]
  obtain ⟨a, M', e, rfl, rfl⟩ := key.ex
  exact e
def cutsD (n : Nat) (ps : List (Int × Int)) : D := .tup ((subsL n).map (cutDt n ps))
theorem cuts_of_eq {M : Mem} {n : Nat} {ps : List (Int × Int)} (hn : n ≤ 6) (hl : ps.length ≤ 21) (hp : Below n ps) : F_cuts_of [.int n, pT ps] M = .ok (cutsD n ps) M := by
  have key : wp (F_cuts_of [.int n, pT ps] M) fun d M' => d = cutsD n ps ∧ M' = M := by
    unfold F_cuts_of ir_cuts_of
    refine fn_wp rfl ?_
    have e1 : compS [2] (.n 2) (.const (.bl true)) (.app F_cut_of (.cons (.var 0) (.cons (.var 1) (.cons (.var 2) .nil)))) (.lst ((subsL n).map iT)) [.val (.int n), .val (pT ps), .no] M = .ok (.lst ((subsL n).map (cutDt n ps))) M := by
      refine compS_map (g := iT) (cutDt n ps) rfl fun ch _ => ?_
      simp [turn1, cut_of_eq hn hl hp]
    have ef : (Slot.val (pT ps)).thaw = .val (pT ps) := rfl
    simp [start0, subsets_eq hn, e1, cutsD]
  obtain ⟨a, M', e, rfl, rfl⟩ := key.ex
  exact e
end Pk

set_option Elab.async false
set_option linter.all false
set_option autoImplicit false
set_option maxRecDepth 100000
set_option maxHeartbeats 1000000
/-! RulesB: rules made. -/
namespace Pk
/-! ### how many ties -/
theorem place_lt {ns : List Cs} {a : Cs} (h : a ∈ ns) : place ns a < ns.length := List.idxOf_lt_length_iff.mpr h
theorem place_inj {ns : List Cs} {a b : Cs} (ha : a ∈ ns) (hb : b ∈ ns) (h : place ns a = place ns b) : a = b := by
  have h1 : ns[place ns a]'(place_lt ha) = a := List.getElem_idxOf (place_lt ha)
  have h2 : ns[place ns b]'(place_lt hb) = b := List.getElem_idxOf (place_lt hb)
  rw [← h1, ← h2]
  congr 1
/-- two places, the lower one first -/
def sortP (p : Nat × Nat) : Nat × Nat := (min p.1 p.2, max p.1 p.2)
def tri : List (Nat × Nat) := (List.range 6).flatMap fun j => (List.range (j + 1)).map fun i => (i, j)
theorem mem_tri {i j : Nat} (h1 : i ≤ j) (h2 : j < 6) : (i, j) ∈ tri := by
  unfold tri
  refine List.mem_flatMap.mpr ⟨j, List.mem_range.mpr h2, List.mem_map.mpr ⟨i, List.mem_range.mpr (by omega), rfl⟩⟩
theorem ties_len {ns : List Cs} {ts : List (Cs × Cs)} (k : Kinds ns) (h : Ties ns ts) : ts.length ≤ 21 := by
  have key : (ts.map fun t => sortP (place ns t.1, place ns t.2)).length ≤ tri.length := by
    apply erase_sub
    · rw [List.Nodup, List.pairwise_map]
      refine List.Pairwise.imp_of_mem ?_ h.pw
      intro s t hs ht ⟨n1, n2⟩ e
      have e1 : min (place ns s.1) (place ns s.2) = min (place ns t.1) (place ns t.2) := congrArg Prod.fst e
      have e2 : max (place ns s.1) (place ns s.2) = max (place ns t.1) (place ns t.2) := congrArg Prod.snd e
      obtain ⟨a1, a2⟩ := h.mem s hs
      obtain ⟨b1, b2⟩ := h.mem t ht
      have hor : (place ns s.1 = place ns t.1 ∧ place ns s.2 = place ns t.2) ∨ (place ns s.1 = place ns t.2 ∧ place ns s.2 = place ns t.1) := by omega
      rcases hor with ⟨q1, q2⟩ | ⟨q1, q2⟩
      · exact n1 (Prod.ext (place_inj a1 b1 q1) (place_inj a2 b2 q2))
      · exact n2 (Prod.ext (place_inj a1 b2 q1) (place_inj a2 b1 q2))
    · intro p hp
      obtain ⟨t, ht, rfl⟩ := List.mem_map.mp hp
      obtain ⟨b1, b2⟩ := h.mem t ht
      have l1 := place_lt b1
      have l2 := place_lt b2
      have := k.le
      exact mem_tri (by show min _ _ ≤ max _ _; omega) (by show max _ _ < 6; omega)
  have e : tri.length = 21 := by decide
  rw [List.length_map, e] at key
  exact key
/-! ### an instance on its way -/
def acS (cs : List String) (f : String) (r d : D) (Γ : Env) (M : Mem) : RS := match r with
  | .ref a => match M[a]? with
    | some (.ins c ns vs) => if cs.contains c ∧ ns.length < 500 then let p := fput ns vs f d; .next Γ (M.set a (.ins c p.1 p.2)) else .stuck
    | _ => .stuck
  | _ => .stuck
@[simp] theorem asgAt_ac {cs : List String} {f : String} {b : Ex} {d : D} {Γ : Env} {M : Mem} : asgAt (.ac cs b f) d Γ M = vS (ev b Γ M) Γ fun r M => acS cs f r d Γ M := rfl
theorem acS_last {cs : List String} {f : String} {d : D} {Γ : Env} {M : Mem} {c : String} {ns : List String} {vs : List D} (h : cs.contains c = true) (hl : ns.length < 500) :
    acS cs f (.ref M.length) d Γ (M ++ [.ins c ns vs]) = .next Γ (M ++ [.ins c (fput ns vs f d).1 (fput ns vs f d).2]) := by
  unfold acS
  simp only [List.getElem?_append_right (Nat.le_refl _), Nat.sub_self, List.getElem?_cons_zero]
  rw [if_pos ⟨h, hl⟩]
  simp
theorem fld_last {cs : List String} {f : String} {M : Mem} {c : String} {ns : List String} {vs : List D} (h : cs.contains c = true) :
    pFld cs f [.ref M.length] (M ++ [.ins c ns vs]) = optD (fget ns vs f) (M ++ [.ins c ns vs]) := by
  unfold pFld
  simp only [List.getElem?_append_right (Nat.le_refl _), Nat.sub_self, List.getElem?_cons_zero]
  rw [if_pos h]
theorem fld_ins {cs : List String} {f : String} {M : Mem} {c : String} {ns : List String} {vs : List D} (h : cs.contains c = true) : pFld cs f [.ins c ns vs] M = optD (fget ns vs f) M := if_pos h
theorem free_map {α : Type} {k : Nat} {g : α → D} (h : ∀ x, freeD k (g x) = true) : ∀ xs : List α, freeDs k (xs.map g) = true
  | [] => rfl
  | x :: xs => by
    show (freeD k (g x) && freeDs k (xs.map g)) = true
    rw [h x, free_map h xs]; rfl
def pairsL (ns : List Cs) (ts : List (Cs × Cs)) : List (Int × Int) := ts.map fun t => ((place ns t.1 : Nat), (place ns t.2 : Nat))
def rFlds : List String := ["sorts", "links", "lines", "borders"]
def ruleD (ns : List Cs) (ts : List (Cs × Cs)) : D := .ins "Rule" rFlds [namesT ns, tiesT ts, pT (pairsL ns ts), cutsD ns.length (pairsL ns ts)]
theorem pairs_below {ns : List Cs} {ts : List (Cs × Cs)} (h : Ties ns ts) : Below ns.length (pairsL ns ts) := fun p hp => by
  obtain ⟨t, ht, rfl⟩ := List.mem_map.mp hp
  obtain ⟨h1, h2⟩ := h.mem t ht
  have l1 := place_lt h1
  have l2 := place_lt h2
  exact ⟨⟨by show (0 : Int) ≤ ((place ns t.1 : Nat) : Int); omega, by show ((place ns t.1 : Nat) : Int) < _; omega⟩, by show (0 : Int) ≤ ((place ns t.2 : Nat) : Int); omega, by show ((place ns t.2 : Nat) : Int) < _; omega⟩
theorem free_rule {k : Nat} {ns : List Cs} {ts : List (Cs × Cs)} : freeDs k [namesT ns, tiesT ts, pT (pairsL ns ts), cutsD ns.length (pairsL ns ts)] = true := by
  have h1 : freeD k (namesT ns) = true := free_map (fun _ => rfl) ns
  have h2 : freeD k (tiesT ts) = true := free_map (fun _ => rfl) ts
  have h3 : freeD k (pT (pairsL ns ts)) = true := free_map (fun _ => rfl) _
  have i : ∀ l : List Int, freeD k (iT l) = true := fun l => free_map (fun _ => rfl) l
  have h4 : freeD k (cutsD ns.length (pairsL ns ts)) = true := free_map (fun ch => by
    show (freeD k (iT ch) && (freeD k (iT _) && (freeDs k ((lumpsL _ _ ch).map iT) && true))) = true
    rw [i, i, free_map i]; rfl) _
  show (freeD k _ && (freeD k _ && (freeD k _ && (freeD k _ && true)))) = true
  rw [h1, h2, h3, h4]; rfl
theorem init_eq {M : Mem} {ns : List Cs} {ts : List (Cs × Cs)} (k : Kinds ns) (h : Ties ns ts) :
    F_Rule___init__ [.ref M.length, namesT ns, tiesT ts] (M ++ [.ins "Rule" [] []]) = .ok .non (M ++ [.ins "Rule" rFlds [namesT ns, tiesT ts, pT (pairsL ns ts), cutsD ns.length (pairsL ns ts)]]) := by
  have key : wp (F_Rule___init__ [.ref M.length, namesT ns, tiesT ts] (M ++ [.ins "Rule" [] []])) fun d M' => d = .non ∧ M' = (M ++ [.ins "Rule" rFlds [namesT ns, tiesT ts, pT (pairsL ns ts), cutsD ns.length (pairsL ns ts)]]) := by
    unfold F_Rule___init__ ir_Rule___init__
    refine fn_wp rfl ?_
    have e1 : ∀ M' : Mem, compS [3, 4] (.t [3, 4]) (.const (.bl true)) (.app pTup (.cons (.app F_place_of (.cons (.var 1) (.cons (.var 3) .nil))) (.cons (.app F_place_of (.cons (.var 1) (.cons (.var 4) .nil))) .nil))) (tiesT ts) [.val (.ref M.length), .val (namesT ns), .val (tiesT ts), .no, .no] M' = .ok (.lst ((pairsL ns ts).map iP)) M' := fun M' => by
      unfold pairsL
      rw [List.map_map]
      refine compS_map (g := tieD) _ rfl fun t ht => ?_
      obtain ⟨h1, h2⟩ := h.mem t ht
      simp [turn1, tieD, place_of_eq k.nm h1, place_of_eq k.nm h2, iP]
    have e2 : ∀ M' : Mem, F_cuts_of [.int ns.length, .tup ((pairsL ns ts).map iP)] M' = .ok (cutsD ns.length (pairsL ns ts)) M' := fun M' => cuts_of_eq (ps := pairsL ns ts) k.le (by unfold pairsL; rw [List.length_map]; exact ties_len k h) (pairs_below h)
    have e3 : ∀ M' : Mem, pLen tab0 [namesT ns] M' = .ok (.int ns.length) M' := fun M' => by unfold namesT; simp
    simp [start0, check_kinds_ok k, check_ties_ok k.nm h, acS_last, fput, e1, e3, fld_last, fget, e2, rFlds, pT]
  obtain ⟨a, M', e, rfl, rfl⟩ := key.ex
  exact e
theorem rule_new {M : Mem} {ns : List Cs} {ts : List (Cs × Cs)} (k : Kinds ns) (h : Ties ns ts) (hM : M.all (freeC M.length) = true) : mkV "Rule" F_Rule___init__ [namesT ns, tiesT ts] M = .ok (ruleD ns ts) M := by
  unfold mkV
  rw [init_eq k h]
  simp only [List.getElem?_append_right (Nat.le_refl _), Nat.sub_self, List.getElem?_cons_zero]
  rw [if_pos ⟨by simp, by simpa using hM, free_rule⟩]
  simp [ruleD]
theorem rule_new' {M : Mem} {ns : List Cs} {ts : List (Cs × Cs)} : mkV "Rule" (pickF [0, 1, 2] [] F_Rule___init__) [namesT ns, tiesT ts] M = mkV "Rule" F_Rule___init__ [namesT ns, tiesT ts] M := rfl
theorem rule_newK {M : Mem} {ns : List Cs} {ts : List (Cs × Cs)} : mkV "Rule" (pickF [0, 2, 1] [] F_Rule___init__) [tiesT ts, namesT ns] M = mkV "Rule" F_Rule___init__ [namesT ns, tiesT ts] M := rfl
theorem rule_new1 {M : Mem} {ns : List Cs} : mkV "Rule" (pickF [0, 1, 2] [.tup []] F_Rule___init__) [namesT ns] M = mkV "Rule" F_Rule___init__ [namesT ns, tiesT []] M := rfl
/-! ### what a rule shows -/
theorem dun_eq {T : Tab} {m c : String} {ns : List String} {vs r : List D} {M : Mem} {F : Fn} (h : T c m = some F) : dunder T m (.ins c ns vs :: r) M = F (.ins c ns vs :: r) M := by
  simp only [dunder, h]
theorem len_ins {T : Tab} {c : String} {ns : List String} {vs : List D} {M : Mem} : pLen T [.ins c ns vs] M = dunder T "__len__" [.ins c ns vs] M := rfl
theorem bool_ins {T : Tab} {c : String} {ns : List String} {vs : List D} {M : Mem} : pBool T [.ins c ns vs] M = dunder T "__bool__" [.ins c ns vs] M := rfl
theorem in_ins {T : Tab} {c : String} {ns : List String} {vs : List D} {M : Mem} {xs : List D} : pIn T [.tup xs, .ins c ns vs] M = dunder T "__contains__" [.ins c ns vs, .tup xs] M := rfl
theorem add_ins {T : Tab} {c : String} {ns : List String} {vs : List D} {M : Mem} {x : D} : pAdd T [.ins c ns vs, x] M = dunder T "__add__" [.ins c ns vs, x] M := rfl
theorem lenF_eq {F : Fn} {ds : List D} {M : Mem} {n : Int} (h : F ds M = .ok (.int n) M) (h0 : 0 ≤ n) (h1 : n < 1000000) : lenF F ds M = .ok (.int n) M := by
  unfold lenF
  rw [h, bnd_ok]
  have h2 : n.toNat < 2 ^ 62 := by omega
  exact if_pos ⟨h0, h2⟩
theorem blF_eq {F : Fn} {ds : List D} {M : Mem} {b : Bool} (h : F ds M = .ok (.bl b) M) : blF F ds M = .ok (.bl b) M := by
  unfold blF
  rw [h, bnd_ok]
theorem strF_eq {F : Fn} {ds : List D} {M : Mem} {s : Cs} (h : F ds M = .ok (.str s) M) : strF F ds M = .ok (.str s) M := by
  unfold strF
  rw [h, bnd_ok]
section
variable {M : Mem} {ns : List Cs} {ts : List (Cs × Cs)} {t : Cs × Cs}
theorem fld_sorts : pFld ["Rule"] "sorts" [ruleD ns ts] M = .ok (namesT ns) M := by unfold ruleD; rw [fld_ins rfl]; rfl
theorem fld_links : pFld ["Rule"] "links" [ruleD ns ts] M = .ok (tiesT ts) M := by unfold ruleD; rw [fld_ins rfl]; rfl
theorem len_eq (h : ts.length < 1000) : pLen tabR [ruleD ns ts] M = .ok (.int ts.length) M := by
  have e1 : F_Rule___len__ [ruleD ns ts] M = .ok (.int ts.length) M := by
    have key : wp (F_Rule___len__ [ruleD ns ts] M) fun d M' => d = .int ts.length ∧ M' = M := by
      unfold F_Rule___len__ ir_Rule___len__
      refine fn_wp rfl ?_
      have ef : (Slot.val (ruleD ns ts)).thaw = .val (ruleD ns ts) := rfl
      simp [start0, fld_links, tiesT]
    obtain ⟨a, M', e, rfl, rfl⟩ := key.ex
    exact e
  have et : tabR "Rule" "__len__" = some (lenF F_Rule___len__) := by simp [tabR]
  unfold ruleD at e1 ⊢
  rw [len_ins, dun_eq et, lenF_eq e1 (by omega) (by omega)]
theorem bool_eq : pBool tabR [ruleD ns ts] M = .ok (.bl true) M := by
  have e1 : F_Rule___bool__ [ruleD ns ts] M = .ok (.bl true) M := rfl
  have et : tabR "Rule" "__bool__" = some (blF F_Rule___bool__) := by simp [tabR]
  unfold ruleD at e1 ⊢
  rw [bool_ins, dun_eq et, blF_eq e1]
theorem in_rule (k : Kinds ns) (h : Ties ns ts) (h1 : t.1 ∈ ns) (h2 : t.2 ∈ ns) : pIn tabR [tieD t, ruleD ns ts] M = .ok (.bl (told ts t)) M := by
  have ht : okT t := ⟨nameC_ok (k.nm _ h1), nameC_ok (k.nm _ h2)⟩
  have e1 : F_Rule___contains__ [ruleD ns ts, tieD t] M = .ok (.bl (told ts t)) M := by
    have key : wp (F_Rule___contains__ [ruleD ns ts, tieD t] M) fun d M' => d = .bl (told ts t) ∧ M' = M := by
      unfold F_Rule___contains__ ir_Rule___contains__
      refine fn_wp rfl ?_
      simp [start0, fld_sorts, fld_links, is_tie_eq k.nm ht.1 ht.2, h1, h2, is_told_eq ht (h.ok k.nm)]
    obtain ⟨a, M', e, rfl, rfl⟩ := key.ex
    exact e
  have et : tabR "Rule" "__contains__" = some (blF F_Rule___contains__) := by simp [tabR]
  unfold ruleD tieD at e1 ⊢
  rw [in_ins, dun_eq et, blF_eq e1]
theorem Ties.front {us : List (Cs × Cs)} (h : Ties ns (ts ++ us)) : Ties ns ts := ⟨fun t ht => h.mem t (List.mem_append_left _ ht), (List.pairwise_append.mp h.pw).1⟩
theorem add_rule (k : Kinds ns) (h : Ties ns (ts ++ [t])) (hM : M.all (freeC M.length) = true) : pAdd tabR [ruleD ns ts, tieD t] M = .ok (ruleD ns (ts ++ [t])) M := by
  have h0 := h.front
  obtain ⟨h1, h2⟩ := h.mem t (by simp)
  have ht : okT t := ⟨nameC_ok (k.nm _ h1), nameC_ok (k.nm _ h2)⟩
  have hn : told ts t = false := by
    have := (List.pairwise_append.mp h.pw).2.2
    unfold told
    simp
    exact ⟨fun hc => (this t hc t (by simp)).1 rfl, fun hc => (this _ hc t (by simp)).2 rfl⟩
  have e1 : F_Rule___add__ [ruleD ns ts, tieD t] M = .ok (ruleD ns (ts ++ [t])) M := by
    have key : wp (F_Rule___add__ [ruleD ns ts, tieD t] M) fun d M' => d = ruleD ns (ts ++ [t]) ∧ M' = M := by
      unfold F_Rule___add__ ir_Rule___add__
      refine fn_wp rfl ?_
      have hl := ties_len k h
      have e2 : pAdd tab0 [tiesT ts, .tup [tieD t]] M = .ok (tiesT (ts ++ [t])) M := by
        unfold tiesT
        rw [add_tup, if_pos (by simp at hl ⊢; unfold lim; omega)]
        simp
      simp [start0, fld_sorts, fld_links, is_tie_eq k.nm ht.1 ht.2, h1, h2, is_told_eq ht (h0.ok k.nm), hn, e2, rule_new k h hM]
    obtain ⟨a, M', e, rfl, rfl⟩ := key.ex
    exact e
  have et : tabR "Rule" "__add__" = some (rT F_Rule___add__) := by simp [tabR]
  unfold ruleD at e1 ⊢
  rw [add_ins, dun_eq et]
  exact e1
end
end Pk

set_option Elab.async false
set_option linter.all false
set_option autoImplicit false
set_option maxRecDepth 100000
set_option maxHeartbeats 1000000
/-! RulesC: texts of rules. -/
namespace Pk
theorem strs_map : ∀ ss : List Cs, Pk.strsL (ss.map .str) = some ss
  | [] => rfl
  | s :: ss => by
    show (match Pk.strsL (ss.map .str) with
      | some r => some (s :: r)
      | none => none) = _
    rw [strs_map ss]
theorem join_eq {M : Mem} {y : Cs} {ss : List Cs} (h : (joinC y ss).length + y.length ≤ lim) : pJoin [.str y, .lst (ss.map .str)] M = .ok (.str (joinC y ss)) M := by
  show (match Pk.strsL (ss.map .str) with
    | some ss => if (joinC y ss).length + y.length ≤ lim then Res.ok (D.str (joinC y ss)) M else .stuck
    | none => .stuck) = _
  rw [strs_map]
  exact if_pos h
theorem joinB {y : Cs} {b : Nat} : ∀ {ss : List Cs}, (∀ s ∈ ss, s.length ≤ b) → (joinC y ss).length ≤ ss.length * (b + y.length)
  | [], _ => by simp [joinC]
  | [x], h => by
    have := h x (by simp)
    simp [joinC]; omega
  | x :: z :: r, h => by
    have h1 := h x (by simp)
    have h2 := joinB (y := y) (b := b) (ss := z :: r) fun s hs => h s (List.mem_cons_of_mem _ hs)
    show (x ++ y ++ joinC y (z :: r)).length ≤ _
    rw [List.length_append, List.length_append]
    have e : (x :: z :: r).length * (b + y.length) = (b + y.length) + (z :: r).length * (b + y.length) := by
      rw [List.length_cons, Nat.add_mul, Nat.one_mul, Nat.add_comm]
    omega
theorem strO_ins {T : Tab} {c : String} {ns : List String} {vs : List D} {M : Mem} : pStrO T [.ins c ns vs] M = dunder T "__str__" [.ins c ns vs] M := rfl
/-- the line of kinds, of a tie, the text -/
def kLine (ns : List Cs) : Cs := joinC [32] ([107, 105, 110, 100, 115] :: ns)
def tLine (t : Cs × Cs) : Cs := [116, 105, 101, 32] ++ (t.1 ++ ([32] ++ t.2))
def pageC (ns : List Cs) (ts : List (Cs × Cs)) : Cs := joinC [10] (kLine ns :: ts.map tLine)
section
variable {M : Mem} {ns : List Cs} {ts : List (Cs × Cs)}
theorem kLine_len (k : Kinds ns) : (kLine ns).length ≤ 63 := by
  have := joinB (y := [32]) (b := 8) (ss := [107, 105, 110, 100, 115] :: ns) (fun s hs => by
    rcases List.mem_cons.mp hs with rfl | hs
    · decide
    · exact nameC_len (k.nm s hs))
  have := k.le
  unfold kLine
  simp at *
  omega
theorem tLine_len (k : Kinds ns) {t : Cs × Cs} (h : t.1 ∈ ns ∧ t.2 ∈ ns) : (tLine t).length ≤ 63 := by
  have h1 := nameC_len (k.nm _ h.1)
  have h2 := nameC_len (k.nm _ h.2)
  simp [tLine]; omega
theorem page_len (k : Kinds ns) (h : Ties ns ts) : (pageC ns ts).length ≤ 1500 := by
  have := joinB (y := [10]) (b := 63) (ss := kLine ns :: ts.map tLine) (fun s hs => by
    rcases List.mem_cons.mp hs with rfl | hs
    · exact kLine_len k
    · obtain ⟨t, ht, rfl⟩ := List.mem_map.mp hs
      exact tLine_len k (h.mem t ht))
  have := ties_len k h
  unfold pageC
  simp at *
  omega
theorem str_eq (k : Kinds ns) (h : Ties ns ts) : pStrO tabR [ruleD ns ts] M = .ok (.str (pageC ns ts)) M := by
  have e1 : F_Rule___str__ [ruleD ns ts] M = .ok (.str (pageC ns ts)) M := by
    have key : wp (F_Rule___str__ [ruleD ns ts] M) fun d M' => d = .str (pageC ns ts) ∧ M' = M := by
      unfold F_Rule___str__ ir_Rule___str__
      refine fn_wp rfl ?_
      have hk := kLine_len k
      have hp := page_len k h
      have e2 : pSpl [false, true] [.str [107, 105, 110, 100, 115], namesT ns] M = .ok (.lst (([107, 105, 110, 100, 115] :: ns).map .str)) M := by
        have hl : (D.str [107, 105, 110, 100, 115] :: (ns.map D.str ++ [])).length ≤ lim := by have := k.le; simp [lim]; omega
        unfold pSpl namesT
        simp only [splice]
        rw [if_pos hl]
        simp
      have e3 : pJoin [.str [32], .lst (([107, 105, 110, 100, 115] :: ns).map .str)] M = .ok (.str (kLine ns)) M := join_eq (by unfold kLine at hk; unfold lim; simp at *; omega)
      have e4 : compS [1, 2] (.t [1, 2]) (.const (.bl true)) (.app pFstr (.cons (.app pFmt (.cons (.const (.str [116, 105, 101, 32])) .nil)) (.cons (.app pFmt (.cons (.var 1) .nil)) (.cons (.app pFmt (.cons (.const (.str [32])) .nil)) (.cons (.app pFmt (.cons (.var 2) .nil)) .nil))))) (tiesT ts) [.val (ruleD ns ts), .no, .no] M = .ok (.lst ((ts.map tLine).map .str)) M := by
        rw [List.map_map]
        refine compS_map (g := tieD) _ rfl fun t ht => ?_
        obtain ⟨m1, m2⟩ := h.mem t ht
        have l1 := nameC_len (k.nm _ m1)
        have l2 := nameC_len (k.nm _ m2)
        have f : ∀ s : Cs, s.length ≤ 8 → pFmt [.str s] M = .ok (.str s) M := fun s hs => if_pos (by unfold lim; omega)
        have f2 : pFstr [.str [116, 105, 101, 32], .str t.1, .str [32], .str t.2] M = .ok (.str (tLine t)) M := by
          have hl := tLine_len k ⟨m1, m2⟩
          show (if ([116, 105, 101, 32] ++ (t.1 ++ ([32] ++ (t.2 ++ [])))).length ≤ lim then Res.ok (D.str ([116, 105, 101, 32] ++ (t.1 ++ ([32] ++ (t.2 ++ []))))) M else .stuck) = _
          rw [List.append_nil]
          exact if_pos (by unfold tLine at hl; unfold lim; omega)
        simp [turn1, tieD, f, l1, l2, f2]
      have e5 : pSpl [false, true] [.str (kLine ns), .lst ((ts.map tLine).map .str)] M = .ok (.lst ((kLine ns :: ts.map tLine).map .str)) M := by
        have hl : (D.str (kLine ns) :: ((ts.map tLine).map D.str ++ [])).length ≤ lim := by have := ties_len k h; simp [lim]; omega
        unfold pSpl
        simp only [splice]
        rw [if_pos hl]
        simp
      have e6 : pJoin [.str [10], .lst ((kLine ns :: ts.map tLine).map .str)] M = .ok (.str (pageC ns ts)) M := join_eq (by unfold pageC at hp; unfold lim; simp at *; omega)
      have e7 : pSeq [namesT ns] M = .ok (namesT ns) M := rfl
      simp only [List.map_cons] at e2 e3 e5 e6
      have ef : (Slot.val (ruleD ns ts)).thaw = .val (ruleD ns ts) := rfl
      simp only [start0, List.map_cons, List.map_nil, List.length_cons, List.length_nil, Nat.zero_add, Nat.reduceSub, List.replicate, List.cons_append, List.nil_append, evSs_cons, wpS_seq, evS_ret, freeze_cons, freeze_nil, ef, thaw_no, wpS_vS, ev_app, evs_cons, evs_nil, ev_const, ev_var, vAt_def, slot0, get_val, bnd_ok, ps_str, fld_sorts, e7, e2, e3, ev_comp, fld_links, e4, seq_lst, e5, e6, wp_ok, wpS_ret]
      trivial
    obtain ⟨a, M', e, rfl, rfl⟩ := key.ex
    exact e
  have et : tabR "Rule" "__str__" = some (strF F_Rule___str__) := by simp [tabR]
  unfold ruleD at e1 ⊢
  rw [strO_ins, dun_eq et, strF_eq e1]
theorem law_page_eq (k : Kinds ns) (h : Ties ns ts) : F__law_page [namesT ns, tiesT ts] M = .ok (.str (pageC ns ts)) M := by
  have key : wp (F__law_page [namesT ns, tiesT ts] M) fun d M' => d = .str (pageC ns ts) ∧ M' = M := by
    unfold F__law_page ir__law_page
    refine fn_wp rfl ?_
    have hk := kLine_len k
    have hp := page_len k h
    have e1 : pList [namesT ns] M = .ok (.lst (ns.map .str)) M := rfl
    have e2 : pAdd tab0 [.lst [.str [107, 105, 110, 100, 115]], .lst (ns.map .str)] M = .ok (.lst (.str [107, 105, 110, 100, 115] :: ns.map .str)) M := by
      rw [add_lst, if_pos (by have := k.le; simp [lim]; omega)]; rfl
    have e3 : pJoin [.str [32], .lst (([107, 105, 110, 100, 115] :: ns).map .str)] M = .ok (.str (kLine ns)) M := join_eq (by unfold kLine at hk; unfold lim; simp at *; omega)
    have e4 : compS [2, 3] (.t [2, 3]) (.const (.bl true)) (.app (pAdd tab0) (.cons (.app (pAdd tab0) (.cons (.app (pAdd tab0) (.cons (.const (.str [116, 105, 101, 32])) (.cons (.var 2) .nil))) (.cons (.const (.str [32])) .nil))) (.cons (.var 3) .nil))) (tiesT ts) [.val (namesT ns), .val (tiesT ts), .no, .no] M = .ok (.lst ((ts.map tLine).map .str)) M := by
      rw [List.map_map]
      refine compS_map (g := tieD) _ rfl fun t ht => ?_
      obtain ⟨m1, m2⟩ := h.mem t ht
      have l1 := nameC_len (k.nm _ m1)
      have l2 := nameC_len (k.nm _ m2)
      have a1 : pAdd tab0 [.str [116, 105, 101, 32], .str t.1] M = .ok (.str ([116, 105, 101, 32] ++ t.1)) M := by
        rw [add_str, if_pos (by simp [lim]; omega)]
      have a2 : pAdd tab0 [.str ([116, 105, 101, 32] ++ t.1), .str [32]] M = .ok (.str (([116, 105, 101, 32] ++ t.1) ++ [32])) M := by
        rw [add_str, if_pos (by simp [lim]; omega)]
      have a3 : pAdd tab0 [.str (([116, 105, 101, 32] ++ t.1) ++ [32]), .str t.2] M = .ok (.str (tLine t)) M := by
        rw [add_str, if_pos (by simp [lim]; omega)]
        simp [tLine]
      simp only [turn1, wipe_cons, wipe_nil, tieD, asgTg_t, setNs_cons, setNs_nil, List.set_cons_succ, List.set_cons_zero, setNS, setN0, ev_const, bnd_ok, asBool_bl, if_true, ev_app, evs_cons, evs_nil, ev_var, vAt_def, slotS, slot0, get_val, a1, a2, a3]
      rfl
    have e5 : pAdd tab0 [.lst [.str (kLine ns)], .lst ((ts.map tLine).map .str)] M = .ok (.lst (.str (kLine ns) :: (ts.map tLine).map .str)) M := by
      rw [add_lst, if_pos (by have := ties_len k h; simp [lim]; omega)]; rfl
    have e6 : pJoin [.str [10], .lst ((kLine ns :: ts.map tLine).map .str)] M = .ok (.str (pageC ns ts)) M := join_eq (by unfold pageC at hp; unfold lim; simp at *; omega)
    simp only [List.map_cons] at e3 e6
    have ef : (Slot.val (namesT ns)).thaw = .val (namesT ns) := rfl
    have eg : (Slot.val (tiesT ts)).thaw = .val (tiesT ts) := rfl
    simp only [start0, List.map_cons, List.map_nil, List.length_cons, List.length_nil, Nat.zero_add, Nat.reduceAdd, Nat.reduceSub, List.replicate, List.cons_append, List.nil_append, evSs_cons, wpS_seq, evS_ret, freeze_cons, freeze_nil, ef, eg, thaw_no, wpS_vS, ev_app, evs_cons, evs_nil, ev_const, ev_var, vAt_def, slot0, slotS, get_val, bnd_ok, ps_str, lst_def, e1, e2, e3, ev_comp, e4, e5, e6, wp_ok, wpS_ret]
    trivial
  obtain ⟨a, M', e, rfl, rfl⟩ := key.ex
  exact e
end

/-! ### a text is read -/
theorem split_word {c : Nat} : ∀ (s acc r : Cs), c ∉ s → splitC c acc (s ++ r) = splitC c (acc ++ s) r
  | [], acc, r, _ => by simp
  | x :: s, acc, r, h => by
    have h : ¬ x = c ∧ c ∉ s := by
      simp at h
      exact ⟨fun e => h.1 e.symm, h.2⟩
    show (if x = c then acc :: splitC c [] (s ++ r) else splitC c (acc ++ [x]) (s ++ r)) = _
    rw [if_neg h.1, split_word s (acc ++ [x]) r h.2, List.append_assoc]
    rfl
theorem split_join {c : Nat} : ∀ (ss : List Cs), (∀ s ∈ ss, c ∉ s) → ss ≠ [] → splitC c [] (joinC [c] ss) = ss
  | [], _, h => absurd rfl h
  | [x], h, _ => by
    have := split_word x [] [] (h x (by simp))
    rw [List.append_nil] at this
    show splitC c [] x = _
    rw [this]; rfl
  | x :: z :: r, h, _ => by
    show splitC c [] (x ++ [c] ++ joinC [c] (z :: r)) = _
    rw [List.append_assoc, split_word x [] _ (h x (by simp)), List.nil_append]
    show (if c = c then x :: splitC c [] (joinC [c] (z :: r)) else _) = _
    rw [if_pos rfl, split_join (z :: r) (fun s hs => h s (List.mem_cons_of_mem _ hs)) (by simp)]
theorem split_eq {M : Mem} {s : Cs} {c : Nat} (h : s.length ≤ lim) (hc : c < 256) : pSplit [.str s, .str [c]] M = .ok (.lst ((splitC c [] s).map .str)) M := if_pos ⟨h, hc⟩
theorem name_no {s : Cs} (h : nameC s = true) {c : Nat} (hc : c = 10 ∨ c = 32) : c ∉ s := fun hm => by
  cases s with
  | nil => cases hm
  | cons x s =>
    unfold nameC at h
    simp only [Bool.and_eq_true, decide_eq_true_eq, List.all_eq_true, Bool.or_eq_true] at h
    have := h.1.2 c hm
    simp [letter, digit] at this
    omega
theorem join_no {c : Nat} {y : Cs} (hy : c ∉ y) : ∀ {ss : List Cs}, (∀ s ∈ ss, c ∉ s) → c ∉ joinC y ss
  | [], _ => by simp [joinC]
  | [x], h => h x (by simp)
  | x :: z :: r, h => by
    show c ∉ x ++ y ++ joinC y (z :: r)
    rw [List.mem_append, List.mem_append]
    rintro ((q | q) | q)
    · exact h x (by simp) q
    · exact hy q
    · exact join_no hy (ss := z :: r) (fun s hs => h s (List.mem_cons_of_mem _ hs)) q
section
variable {M : Mem} {ns : List Cs} {ts : List (Cs × Cs)}
theorem read_tie_eq {t : Cs × Cs} (h1 : nameC t.1 = true) (h2 : nameC t.2 = true) : F_read_tie [.str (tLine t)] M = .ok (tieD t) M := by
  have key : wp (F_read_tie [.str (tLine t)] M) fun d M' => d = tieD t ∧ M' = M := by
    unfold F_read_tie ir_read_tie
    refine fn_wp rfl ?_
    have l1 := nameC_len h1
    have l2 := nameC_len h2
    have ej : tLine t = joinC [32] [[116, 105, 101], t.1, t.2] := by simp [tLine, joinC]
    have e1 : pSplit [.str (tLine t), .str [32]] M = .ok (.lst [.str [116, 105, 101], .str t.1, .str t.2]) M := by
      rw [split_eq (by simp [tLine, lim]; omega) (by decide), ej, split_join]
      · rfl
      · intro s hs
        simp at hs
        rcases hs with rfl | rfl | rfl
        · decide
        · exact name_no h1 (.inr rfl)
        · exact name_no h2 (.inr rfl)
      · simp
    have e2 : ∀ M : Mem, pEq tab0 [.str [116, 105, 101], .str [116, 105, 101]] M = .ok (.bl true) M := fun M => rfl
    simp [start0, e1, e2, tieD]
  obtain ⟨a, M', e, rfl, rfl⟩ := key.ex
  exact e
theorem cut_from1 {α : Type} {x : α} {xs : List α} : cut (x :: xs) (some 1) none = xs := by
  unfold cut sIx
  simp
theorem read_rule_eq (k : Kinds ns) (h : Ties ns ts) : F_read_rule [.str (pageC ns ts)] M = .ok (.tup [namesT ns, tiesT ts]) M := by
  have key : wp (F_read_rule [.str (pageC ns ts)] M) fun d M' => d = .tup [namesT ns, tiesT ts] ∧ M' = M := by
    unfold F_read_rule ir_read_rule
    refine fn_wp rfl ?_
    have hp := page_len k h
    have hk := kLine_len k
    have no10 : ∀ s ∈ kLine ns :: ts.map tLine, 10 ∉ s := fun s hs => by
      rcases List.mem_cons.mp hs with rfl | hs
      · refine join_no (by decide) fun s hs => ?_
        rcases List.mem_cons.mp hs with rfl | hs
        · decide
        · exact name_no (k.nm s hs) (.inl rfl)
      · obtain ⟨t, ht, rfl⟩ := List.mem_map.mp hs
        obtain ⟨m1, m2⟩ := h.mem t ht
        have q1 := name_no (k.nm _ m1) (c := 10) (.inl rfl)
        have q2 := name_no (k.nm _ m2) (c := 10) (.inl rfl)
        simp [tLine, q1, q2]
    have e1 : pSplit [.str (pageC ns ts), .str [10]] M = .ok (.lst (.str (kLine ns) :: (ts.map tLine).map .str)) M := by
      rw [split_eq (by unfold lim; omega) (by decide)]
      unfold pageC
      rw [split_join _ no10 (by simp)]; rfl
    have e2 : pSplit [.str (kLine ns), .str [32]] M = .ok (.lst (.str [107, 105, 110, 100, 115] :: ns.map .str)) M := by
      rw [split_eq (by unfold lim; omega) (by decide)]
      unfold kLine
      rw [split_join _ (fun s hs => by
        rcases List.mem_cons.mp hs with rfl | hs
        · decide
        · exact name_no (k.nm s hs) (.inr rfl)) (by simp)]; rfl
    have e3 : ∀ Γ : Env, compS [5] (.n 5) (.const (.bl true)) (.app F_read_tie (.cons (.var 5) .nil)) (.lst ((ts.map tLine).map .str)) [.val (.str (pageC ns ts)), .val (.lst (.str (kLine ns) :: (ts.map tLine).map .str)), .val (.lst (.str [107, 105, 110, 100, 115] :: ns.map .str)), .no, .no, .no] M = .ok (.lst (ts.map tieD)) M := fun Γ => by
      rw [List.map_map]
      refine compS_map (g := fun t => D.str (tLine t)) tieD rfl fun t ht => ?_
      obtain ⟨m1, m2⟩ := h.mem t ht
      simp [turn1, read_tie_eq (k.nm _ m1) (k.nm _ m2)]
    have hp2 : ¬ (ns = []) := fun e => by have := k.pos; rw [e] at this; simp at this
    have e4 := wrong_kind_ok (M := M) k
    have e5 := wrong_tie_ok (M := M) k.nm h
    have e6 : ∀ M : Mem, pNe tab0 [.str [107, 105, 110, 100, 115], .str [107, 105, 110, 100, 115]] M = .ok (.bl false) M := fun M => rfl
    unfold namesT at e4 e5
    unfold tiesT at e5
    refine go_mid (fun Γ M' => M' = M ∧ Γ = [.val (.str (pageC ns ts)), .no, .no, .no, .no, .no]) (by simp [start0, isB]; exact hold ⟨rfl, rfl⟩) ?_
    rintro Γ M' ⟨rfl, rfl⟩
    refine go_mid (fun Γ M => M = M' ∧ Γ = [.val (.str (pageC ns ts)), .val (.lst (.str (kLine ns) :: (ts.map tLine).map .str)), .no, .no, .no, .no]) (by simp only [evS_n, ev_app, evs_cons, evs_nil, ev_var, ev_const, vAt_def, slot0, get_val, bnd_ok, ps_str, wpS_vS, wp_bnd, wp_ok, e1]; exact hold ⟨rfl, rfl⟩) ?_
    rintro Γ M ⟨rfl, rfl⟩
    refine go_mid (fun Γ M' => M' = M ∧ Γ = [.val (.str (pageC ns ts)), .val (.lst (.str (kLine ns) :: (ts.map tLine).map .str)), .val (.lst (.str [107, 105, 110, 100, 115] :: ns.map .str)), .no, .no, .no]) (by simp [-List.map_map, e2]; exact hold ⟨rfl, rfl⟩) ?_
    rintro Γ M' ⟨rfl, rfl⟩
    refine go_mid (fun Γ M => M = M' ∧ Γ = [.val (.str (pageC ns ts)), .val (.lst (.str (kLine ns) :: (ts.map tLine).map .str)), .val (.lst (.str [107, 105, 110, 100, 115] :: ns.map .str)), .val (.tup (ns.map .str)), .val (.tup (ts.map tieD)), .no]) (by simp [-List.map_map, cut_from1, e3 []]; exact hold ⟨rfl, rfl⟩) ?_
    rintro Γ M ⟨rfl, rfl⟩
    simp [-List.map_map, e4, e5, e6, hp2, namesT, tiesT]
  obtain ⟨a, M', e, rfl, rfl⟩ := key.ex
  exact e
theorem read_eq (k : Kinds ns) (h : Ties ns ts) (hM : M.all (freeC M.length) = true) : F_Rule_read [.cls "Rule", .str (pageC ns ts)] M = .ok (ruleD ns ts) M := by
  have key : wp (F_Rule_read [.cls "Rule", .str (pageC ns ts)] M) fun d M' => d = ruleD ns ts ∧ M' = M := by
    unfold F_Rule_read ir_Rule_read
    refine fn_wp rfl ?_
    have e1 : pCls "Rule" [.cls "Rule"] M = .ok (.cls "Rule") M := rfl
    have e2 : ∀ x y z : D, tailF (mkV "Rule" (pickF [0, 1, 2] [] F_Rule___init__)) [x, y, z] M = mkV "Rule" (pickF [0, 1, 2] [] F_Rule___init__) [y, z] M := fun _ _ _ => rfl
    have ef : (Slot.val (.cls "Rule")).thaw = .val (.cls "Rule") := rfl
    simp [start0, read_rule_eq k h, e1, e2, rule_new', rule_new k h hM]
  obtain ⟨a, M', e, rfl, rfl⟩ := key.ex
  exact e
end
end Pk

set_option Elab.async false
set_option linter.all false
set_option autoImplicit false
set_option maxRecDepth 100000
set_option maxHeartbeats 1000000
/-! Links: the ties that laws draw. -/
namespace Pk
def nP (p : Nat × Nat) : D := .tup [.int p.1, .int p.2]
def insN {α : Type} (l : List α) (r : Nat) (x : α) : List α := l.take r ++ [x] ++ l.drop r
theorem insAt_map {l : List (Nat × Nat)} {r : Nat} {p : Nat × Nat} : insAt (l.map nP) (r : Int) (nP p) = (insN l r p).map nP := by
  unfold insAt insN
  simp [List.map_take, List.map_drop]
theorem insN_perm {α : Type} {l : List α} {r : Nat} {x : α} : (insN l r x).Perm (x :: l) := by
  unfold insN
  have h : (l.take r ++ [x] ++ l.drop r).Perm ([x] ++ l.take r ++ l.drop r) := List.Perm.append_right _ List.perm_append_comm
  refine h.trans ?_
  rw [List.append_assoc, List.take_append_drop]
  exact List.Perm.refl _
/-- drawn so far, ahead of (one, two) -/
structure Lk (one two : Nat) (l : List (Nat × Nat)) : Prop where
  nd : (l.map sortP).Nodup
  lt : ∀ p ∈ l, max p.1 p.2 < one ∨ (max p.1 p.2 = one ∧ min p.1 p.2 < two)
  len : l.length ≤ 9 * one + two
theorem Lk.next {one two : Nat} {l : List (Nat × Nat)} (h : Lk one two l) : Lk one (two + 1) l :=
  ⟨h.nd, fun p hp => by rcases h.lt p hp with q | q <;> omega, by have := h.len; omega⟩
theorem Lk.row {one : Nat} {l : List (Nat × Nat)} (h : Lk one (one + 1) l) (h8 : one ≤ 8) : Lk (one + 1) 0 l :=
  ⟨h.nd, fun p hp => by rcases h.lt p hp with q | q <;> omega, by have := h.len; omega⟩
theorem Lk.put {one two r : Nat} {l : List (Nat × Nat)} {p : Nat × Nat} (h : Lk one two l) (h1 : two ≤ one) (hp : p = (one, two) ∨ p = (two, one)) : Lk one (two + 1) (insN l r p) := by
  have hmx : max p.1 p.2 = one := by rcases hp with rfl | rfl <;> simp <;> omega
  have hmn : min p.1 p.2 = two := by rcases hp with rfl | rfl <;> simp <;> omega
  refine ⟨?_, fun q hq => ?_, ?_⟩
  · refine ((insN_perm (l := l) (r := r) (x := p)).map sortP).symm.nodup ?_
    rw [List.map_cons]
    refine List.nodup_cons.mpr ⟨fun hc => ?_, h.nd⟩
    obtain ⟨q, hq, e⟩ := List.mem_map.mp hc
    have e1 : min q.1 q.2 = two := (congrArg Prod.fst e).trans hmn
    have e2 : max q.1 q.2 = one := (congrArg Prod.snd e).trans hmx
    rcases h.lt q hq with z | z <;> omega
  · rcases List.mem_cons.mp ((insN_perm (l := l) (r := r) (x := p)).mem_iff.mp hq) with rfl | hq
    · right; omega
    · rcases h.lt q hq with z | z <;> omega
  · rw [(insN_perm (l := l) (r := r) (x := p)).length_eq, List.length_cons]
    have := h.len
    omega
abbrev envL (k many c : Nat) (l : List (Nat × Nat)) (s4 s5 s6 : Slot) : Env := [.val (.ref k), .val (.int many), .val (.int c), .own (.lst (l.map nP)), s4, s5, s6]
theorem links_wp {M : Mem} {n k many : Nat} {Q : D → Mem → Prop} (hM : Pu n k M) (hn : n < 900000) (hm : many ≤ 8)
    (h : ∀ (l : List (Nat × Nat)) (M' : Mem), (∀ p ∈ l, p.1 < many ∧ p.2 < many) → (l.map sortP).Nodup → Pu (n + 300) k M' → Q (.lst (l.map nP)) M') : wp (F__law_links [.ref k, .int many] M) Q := by
  unfold F__law_links ir__law_links
  refine fn_wp rfl ?_
  refine go_mid (fun Γ M' => Pu (n + 1) k M' ∧ ∃ c, Γ = envL k many c [] .no .no .no) ?_ ?_
  · simp [start0]
    refine draw_wp hM (by omega) (by omega) (by omega) fun r M1 hr hP => ?_
    simp
    exact hold ⟨hP, 1 + r, by simp⟩
  rintro Γ M ⟨hP, c, rfl⟩
  refine go_for (isV (fun d => d = .lst ((List.range many).map fun j : Nat => .int (j : Int))) M) ?_ ?_
  · simp [rangeL_map, lim]
    exact ⟨by omega, hold ⟨rfl, by simp⟩⟩
  rintro d M ⟨rfl, rfl⟩
  simp only [forS, items_lst]
  refine for_map (fun j Γ M => Pu (n + 1 + 30 * j) k M ∧ ∃ l s4 s5 s6, Lk j 0 l ∧ Γ = envL k many c l s4 s5 s6) (List.range many) _ _ ⟨hP, [], _, _, _, ⟨by simp, (fun _ h => nomatch h), by simp⟩, rfl⟩ ?_ ?_
  · clear hP
    rintro j x Γ M hx ⟨hP, l, s4, s5, s6, hl, rfl⟩
    have hj : j < many := by
      have := (List.getElem?_eq_some_iff.mp hx).1
      simpa using this
    have hxj : x = j := by
      rw [List.getElem?_range hj] at hx
      exact (Option.some.inj hx).symm
    subst hxj
    have e0 : ∀ (b : Sms) (s4 s5 s6 : Slot) (d : D), turn (.n 4) b d (envL k many c l s4 s5 s6) M = evSs b (envL k many c l (.val d) s5 s6) M := fun _ _ _ _ _ => rfl
    rw [e0]
    clear e0
    generalize hG : envL k many c l (.val (.int x)) s5 s6 = G
    refine go_for (isV (fun d => d = .lst ((List.range (x + 1)).map fun j : Nat => .int (j : Int))) M) ?_ ?_
    · subst hG
      have e : ((x : Int) + 1).toNat = x + 1 := by omega
      simp [rangeL_map, lim, e]
      exact ⟨by omega, hold ⟨rfl, by simp⟩⟩
    rintro d M ⟨rfl, rfl⟩
    subst hG
    simp only [forS, items_lst]
    refine for_map (fun i Γ M => Pu (n + 1 + 30 * x + 3 * i) k M ∧ ∃ l s5 s6, Lk x i l ∧ Γ = envL k many c l (.val (.int x)) s5 s6) (List.range (x + 1)) _ _ ⟨by simpa using hP, l, s5, s6, hl, rfl⟩ ?_ ?_
    · clear hP hl l s5 s6
      rintro i y Γ M hy ⟨hP, l, s5, s6, hl, rfl⟩
      have hi : i < x + 1 := by
        have := (List.getElem?_eq_some_iff.mp hy).1
        simpa using this
      have hyi : y = i := by
        rw [List.getElem?_range hi] at hy
        exact (Option.some.inj hy).symm
      subst hyi
      have hlen := hl.len
      have hlim : l.length < lim := by unfold lim; omega
      have step : ∀ (M1 : Mem) (r1 : Nat), Pu (n + 1 + 30 * x + 3 * y + 1) k M1 → wpS (evSs (.cons (.ite (.app pLt (.cons (.const (.int r1)) (.cons (.var 2) .nil))) (.cons (.asg (.n 6) (.ite (.app (pEq tab0) (.cons (.app F__law_draw (.cons (.var 0) (.cons (.const (.int 2)) .nil))) (.cons (.const (.int 0)) .nil))) (.app pTup (.cons (.var 4) (.cons (.var 5) .nil))) (.app pTup (.cons (.var 5) (.cons (.var 4) .nil))))) (.cons (.meth 3 mInsert (.cons (.app F__law_draw (.cons (.var 0) (.cons (.app (pAdd tab0) (.cons (.app (pLen tab0) (.cons (.var 3) .nil)) (.cons (.const (.int 1)) .nil))) .nil))) (.cons (.var 6) .nil))) .nil)) .nil) .nil) (envL k many c l (.val (.int x)) (.val (.int y)) s6) M1)
          (fun Γ' M' => Hold (Pu (n + 1 + 30 * x + 3 * (y + 1)) k M' ∧ ∃ l s5 s6, Lk x (y + 1) l ∧ Γ' = envL k many c l (.val (.int x)) s5 s6)) Q := fun M1 r1 hP1 => by
        simp
        split
        · refine draw_wp hP1 (by omega) (by omega) (by omega) fun r2 M2 hr2 hP2 => ?_
          simp
          split
          · refine draw_wp hP2 (by omega) (by omega) (by omega) fun r3 M3 hr3 hP3 => ?_
            have e60 : r3 < 1152921504606846976 := by omega
            simp [hlim, e60]
            exact hold ⟨hP3.mono (by omega), insN l r3 (x, y), .val (.int y), .val (nP (x, y)), hl.put (by omega) (.inl rfl), by unfold envL; rw [← insAt_map]; rfl⟩
          · refine draw_wp hP2 (by omega) (by omega) (by omega) fun r3 M3 hr3 hP3 => ?_
            have e60 : r3 < 1152921504606846976 := by omega
            simp [hlim, e60]
            exact hold ⟨hP3.mono (by omega), insN l r3 (y, x), .val (.int y), .val (nP (y, x)), hl.put (by omega) (.inr rfl), by unfold envL; rw [← insAt_map]; rfl⟩
        · exact hold ⟨hP1.mono (by omega), l, .val (.int y), s6, hl.next, rfl⟩
      simp only [turn, asgTg_n]
      simp
      split
      all_goals
        refine draw_wp hP (by omega) (by omega) (by omega) fun r1 M1 hr1 hP1 => ?_
        have := step M1 r1 hP1
        simp at this ⊢
        exact this
    · clear hP hl l s5 s6
      rintro Γ M ⟨hP, l, s5, s6, hl, rfl⟩
      simp at hl hP ⊢
      exact hold ⟨hP.mono (by omega), l, .val (.int x), s5, s6, hl.row (by omega), rfl⟩
  · clear hP
    rintro Γ M ⟨hP, l, s4, s5, s6, hl, rfl⟩
    simp
    refine h l M (fun p hp => ?_) hl.nd (hP.mono (by simp; omega))
    have := hl.lt p hp
    simp at this
    omega
end Pk

set_option Elab.async false
set_option linter.all false
set_option autoImplicit false
set_option maxRecDepth 100000
set_option maxHeartbeats 1000000
/-! Repr: repr of small data. -/
namespace Pk
open PySem
/-- what may be shown -/
structure Sm8 (d : D) (b : Nat) : Prop where
  p : pl 7 d = true
  l : (toPy d).leavesShort 40 = true
  s : (toPy d).showable = true
  k : (toPy d).bulk ≤ b
theorem repr_ok {d : D} {b : Nat} {M : Mem} (h : Sm8 d b) (hp : pl 8 d = true) (hb : b ≤ 100000) : pRepr [d] M = .ok (.str (reprD d)) M := by
  have h1 := PyData.shown_le_bulk 40 (by decide) (toPy d) h.l
  have h2 : (reprD d).length ≤ 10 * lim := by
    have e : (reprD d).length = (toPy d).shown.length := by rw [reprD_sof, sof_len]
    have hk := h.k
    rw [e]
    unfold lim
    have : 42 * (toPy d).bulk ≤ 42 * 100000 := Nat.mul_le_mul_left _ (by omega)
    omega
  by_cases e0 : isE0 d = true
  · cases isE0_eq e0
    cases hp
  · exact (if_neg e0).trans (if_pos ⟨hp, h.s, h2⟩)
theorem allL {xs : List PyData} (h : ∀ x ∈ xs, x.leavesShort 40 = true) : PyData.leavesShortAll 40 xs = true := by
  induction xs with
  | nil => rfl
  | cons x xs ih =>
    unfold PyData.leavesShortAll
    rw [h x (by simp), ih fun y hy => h y (by simp [hy])]; rfl
theorem allS {xs : List PyData} (h : ∀ x ∈ xs, x.showable = true) : PyData.showableAll xs = true := by
  induction xs with
  | nil => rfl
  | cons x xs ih =>
    unfold PyData.showableAll
    rw [h x (by simp), ih fun y hy => h y (by simp [hy])]; rfl
theorem allB {b : Nat} {xs : List PyData} (h : ∀ x ∈ xs, x.bulk ≤ b) : PyData.bulkAll xs ≤ xs.length * (b + 1) := by
  induction xs with
  | nil => simp [PyData.bulkAll]
  | cons x xs ih =>
    unfold PyData.bulkAll
    have h1 := h x (by simp)
    have h2 := ih fun y hy => h y (by simp [hy])
    rw [List.length_cons, Nat.add_mul, Nat.one_mul]
    omega
theorem pl_str7 {n : Nat} {s : Cs} (h : okC s = true) : pl n (.str s) = true := by rw [pl_str]; exact h
theorem sm_str {s : Cs} (h : okC s = true) : Sm8 (.str s) s.length := by
  refine ⟨pl_str7 h, ?_, rfl, ?_⟩
  · show ((sof s).cps.toList.all fun c => decide (c < 16 ^ 8)) = true
    rw [tl_sof]
    unfold okC at h
    rw [List.all_eq_true] at h ⊢
    intro c hc
    have := h c hc
    simp at this ⊢
    omega
  · show (sof s).cps.size ≤ s.length
    simp [sof]
theorem sm_bl {b : Bool} : Sm8 (.bl b) 0 := ⟨by cases b <;> rfl, rfl, rfl, Nat.le_refl _⟩
theorem sm_nat {n : Nat} (h : n < 100) : Sm8 (.int n) 0 := by
  refine ⟨rfl, ?_, ?_, Nat.le_refl _⟩
  · show decide ((PyData.shown (.int (n : Int))).length ≤ 40) = true
    revert n
    decide +kernel
  · show decide ((n : Int).natAbs.log2 < 1920) = true
    revert n
    decide +kernel
theorem toPy_tup {xs : List D} : toPy (.tup xs) = .tuple (xs.map toPy) := by
  show PyData.tuple (toPys xs) = _
  rw [toPys_map]
theorem toPy_lst {xs : List D} : toPy (.lst xs) = .list (xs.map toPy) := by
  show PyData.list (toPys xs) = _
  rw [toPys_map]
theorem sm_seq {xs : List D} {b : Nat} (h : ∀ x ∈ xs, Sm8 x b) : (toPy (.tup xs)).leavesShort 40 = true ∧ (toPy (.tup xs)).showable = true ∧ (toPy (.tup xs)).bulk ≤ xs.length * (b + 1) ∧ (toPy (.lst xs)).leavesShort 40 = true ∧ (toPy (.lst xs)).showable = true ∧ (toPy (.lst xs)).bulk ≤ xs.length * (b + 1) := by
  have h1 : PyData.leavesShortAll 40 (xs.map toPy) = true := allL fun x hx => by
    obtain ⟨d, hd, rfl⟩ := List.mem_map.mp hx
    exact (h d hd).l
  have h2 : PyData.showableAll (xs.map toPy) = true := allS fun x hx => by
    obtain ⟨d, hd, rfl⟩ := List.mem_map.mp hx
    exact (h d hd).s
  have h3 : PyData.bulkAll (xs.map toPy) ≤ xs.length * (b + 1) := by
    have := allB (b := b) (xs := xs.map toPy) fun x hx => by
      obtain ⟨d, hd, rfl⟩ := List.mem_map.mp hx
      exact (h d hd).k
    simpa using this
  rw [toPy_tup, toPy_lst]
  exact ⟨h1, h2, h3, h1, h2, h3⟩
theorem sm_names {ns : List Cs} (k : Kinds ns) : Sm8 (namesT ns) 54 := by
  have h := sm_seq (xs := ns.map .str) (b := 8) fun x hx => by
    obtain ⟨s, hs, rfl⟩ := List.mem_map.mp hx
    have q := sm_str (nameC_ok (k.nm s hs))
    exact ⟨q.p, q.l, q.s, Nat.le_trans q.k (nameC_len (k.nm s hs))⟩
  refine ⟨?_, h.1, h.2.1, Nat.le_trans h.2.2.1 (by have := k.le; simp; omega)⟩
  show (ns.map D.str).all (pl 6) = true
  rw [List.all_eq_true]
  intro x hx
  obtain ⟨s, hs, rfl⟩ := List.mem_map.mp hx
  exact pl_str7 (nameC_ok (k.nm s hs))
theorem sm_ties {ns : List Cs} {ts : List (Cs × Cs)} (k : Kinds ns) (h : Ties ns ts) : Sm8 (tiesT ts) 399 := by
  have hl := ties_len k h
  have h1 := sm_seq (xs := ts.map tieD) (b := 18) fun x hx => by
    obtain ⟨t, ht, rfl⟩ := List.mem_map.mp hx
    obtain ⟨m1, m2⟩ := h.mem t ht
    have n1 := k.nm _ m1
    have n2 := k.nm _ m2
    have q := sm_seq (xs := [.str t.1, .str t.2]) (b := 8) fun x hx => by
      simp at hx
      rcases hx with rfl | rfl
      · have q := sm_str (nameC_ok n1); exact ⟨q.p, q.l, q.s, Nat.le_trans q.k (nameC_len n1)⟩
      · have q := sm_str (nameC_ok n2); exact ⟨q.p, q.l, q.s, Nat.le_trans q.k (nameC_len n2)⟩
    refine ⟨?_, q.1, q.2.1, q.2.2.1⟩
    show (pl 6 (.str t.1) && (pl 6 (.str t.2) && true)) = true
    rw [pl_str7 (nameC_ok n1), pl_str7 (nameC_ok n2)]; rfl
  refine ⟨?_, h1.1, h1.2.1, Nat.le_trans h1.2.2.1 (by simp; omega)⟩
  show (ts.map tieD).all (pl 6) = true
  rw [List.all_eq_true]
  intro x hx
  obtain ⟨t, ht, rfl⟩ := List.mem_map.mp hx
  obtain ⟨m1, m2⟩ := h.mem t ht
  show (pl 5 (.str t.1) && (pl 5 (.str t.2) && true)) = true
  rw [pl_str7 (nameC_ok (k.nm _ m1)), pl_str7 (nameC_ok (k.nm _ m2))]; rfl
theorem page_ok {ns : List Cs} {ts : List (Cs × Cs)} (k : Kinds ns) (h : Ties ns ts) : okC (pageC ns ts) = true := by
  have key : ∀ (y : Cs) (ss : List Cs), okC y = true → (∀ s ∈ ss, okC s = true) → okC (joinC y ss) = true := by
    intro y ss hy
    induction ss with
    | nil => intro _; rfl
    | cons x r ih =>
      intro h
      cases r with
      | nil => exact h x (by simp)
      | cons z r =>
        show ((x ++ y ++ joinC y (z :: r)).all fun c => decide (c < 1114112)) = true
        rw [List.all_append, List.all_append]
        have h1 := h x (by simp)
        have h2 := ih fun s hs => h s (List.mem_cons_of_mem _ hs)
        unfold okC at hy h1 h2
        rw [hy, h1, h2]; rfl
  unfold pageC
  refine key _ _ (by decide) fun s hs => ?_
  rcases List.mem_cons.mp hs with rfl | hs
  · unfold kLine
    refine key _ _ (by decide) fun s hs => ?_
    rcases List.mem_cons.mp hs with rfl | hs
    · decide
    · exact nameC_ok (k.nm s hs)
  · obtain ⟨t, ht, rfl⟩ := List.mem_map.mp hs
    obtain ⟨m1, m2⟩ := h.mem t ht
    have h1 := nameC_ok (k.nm _ m1)
    have h2 := nameC_ok (k.nm _ m2)
    unfold okC at h1 h2
    show (([116, 105, 101, 32] ++ (t.1 ++ ([32] ++ t.2))).all fun c => decide (c < 1114112)) = true
    rw [List.all_append, List.all_append, List.all_append, h1, h2]; rfl
end Pk

set_option Elab.async false
set_option linter.all false
set_option autoImplicit false
set_option maxRecDepth 100000
set_option maxHeartbeats 1000000
/-! LawA: ties drawn, told by names. -/
namespace Pk
def tn (ns : List Cs) (p : Nat × Nat) : Cs × Cs := (ns.getD p.1 [], ns.getD p.2 [])
theorem ix_name {M : Mem} {ns : List Cs} {i : Nat} (h : i < ns.length) : pIx [namesT ns, .int i] M = .ok (.str (ns.getD i [])) M := by
  unfold namesT
  rw [ix_tup, atI_nat, List.getElem?_map, List.getElem?_eq_getElem h, List.getD_eq_getElem?_getD, List.getElem?_eq_getElem h]
  rfl
theorem getD_mem {ns : List Cs} {i : Nat} (h : i < ns.length) : ns.getD i [] ∈ ns := by
  rw [List.getD_eq_getElem?_getD, List.getElem?_eq_getElem h]
  exact List.getElem_mem h
theorem getD_inj {ns : List Cs} (nd : ns.Nodup) {i j : Nat} (hi : i < ns.length) (hj : j < ns.length) (h : ns.getD i [] = ns.getD j []) : i = j := by
  rw [List.getD_eq_getElem?_getD, List.getElem?_eq_getElem hi, List.getD_eq_getElem?_getD, List.getElem?_eq_getElem hj] at h
  have h : ns[i] = ns[j] := h
  apply Classical.byContradiction
  intro hne
  rcases Nat.lt_or_gt_of_ne hne with q | q
  · exact List.pairwise_iff_getElem.mp nd i j hi hj q h
  · exact List.pairwise_iff_getElem.mp nd j i hj hi q h.symm
theorem tied_eq {M : Mem} {ns : List Cs} {l : List (Nat × Nat)} (h : ∀ p ∈ l, p.1 < ns.length ∧ p.2 < ns.length) : F__law_tied [namesT ns, .lst (l.map nP)] M = .ok (tiesT (l.map (tn ns))) M := by
  have key : wp (F__law_tied [namesT ns, .lst (l.map nP)] M) fun d M' => d = tiesT (l.map (tn ns)) ∧ M' = M := by
    unfold F__law_tied ir__law_tied
    refine fn_wp rfl ?_
    have e1 : compS [2, 3] (.t [2, 3]) (.const (.bl true)) (.app pTup (.cons (.app pIx (.cons (.var 0) (.cons (.var 2) .nil))) (.cons (.app pIx (.cons (.var 0) (.cons (.var 3) .nil))) .nil))) (.lst (l.map nP)) [.val (namesT ns), .val (.lst (l.map nP)), .no, .no] M = .ok (.lst ((l.map (tn ns)).map tieD)) M := by
      rw [List.map_map]
      refine compS_map (g := nP) _ rfl fun p hp => ?_
      obtain ⟨h1, h2⟩ := h p hp
      simp [turn1, nP, ix_name h1, ix_name h2, tieD, tn]
    have ef : (Slot.val (namesT ns)).thaw = .val (namesT ns) := rfl
    simp [-List.map_map, start0, ef, e1, tiesT]
  obtain ⟨a, M', e, rfl, rfl⟩ := key.ex
  exact e
theorem ties_of {ns : List Cs} {l : List (Nat × Nat)} (k : ns.Nodup) (h : ∀ p ∈ l, p.1 < ns.length ∧ p.2 < ns.length) (hd : (l.map sortP).Nodup) : Ties ns (l.map (tn ns)) := by
  refine ⟨fun t ht => ?_, ?_⟩
  · obtain ⟨p, hp, rfl⟩ := List.mem_map.mp ht
    exact ⟨getD_mem (h p hp).1, getD_mem (h p hp).2⟩
  · rw [List.Nodup, List.pairwise_map] at hd
    rw [List.pairwise_map]
    refine List.Pairwise.imp_of_mem ?_ hd
    intro p q hp hq hne
    obtain ⟨p1, p2⟩ := h p hp
    obtain ⟨q1, q2⟩ := h q hq
    constructor
    · intro e
      have e1 := getD_inj k p1 q1 (congrArg Prod.fst e)
      have e2 := getD_inj k p2 q2 (congrArg Prod.snd e)
      exact hne (by unfold sortP; rw [e1, e2])
    · intro e
      have e1 := getD_inj k p1 q2 (congrArg Prod.fst e)
      have e2 := getD_inj k p2 q1 (congrArg Prod.snd e)
      exact hne (by unfold sortP; rw [e1, e2, Nat.min_comm, Nat.max_comm])
theorem has_eq {M : Mem} {ts : List (Cs × Cs)} {t : Cs × Cs} (ht : okT t) (h : ∀ s ∈ ts, okT s) : F__law_has [tiesT ts, tieD t] M = .ok (.bl (told ts t)) M := is_told_eq ht h
section
variable {M : Mem} {ns : List Cs} {ts : List (Cs × Cs)}
theorem ne_str {s t : Cs} {M : Mem} : pNe tab0 [.str s, .str t] M = .ok (.bl (!decide (s = t))) M := rfl
theorem shows_eq (k : Kinds ns) (h : Ties ns ts) : F__law_shows [ruleD ns ts, namesT ns, tiesT ts] M = .ok (.bl true) M := by
  have key : wp (F__law_shows [ruleD ns ts, namesT ns, tiesT ts] M) fun d M' => d = .bl true ∧ M' = M := by
    unfold F__law_shows ir__law_shows
    refine fn_wp rfl ?_
    have hl := ties_len k h
    have e0 : pIsOwn sub_Rule [ruleD ns ts] M = .ok (.bl true) M := by
      have : sub_Rule "Rule" = some true := by simp [sub_Rule]
      unfold ruleD
      show optB (sub_Rule "Rule") M = _
      rw [this]; rfl
    have e1 : pLen tab0 [tiesT ts] M = .ok (.int ts.length) M := by unfold tiesT; simp
    have e2 := law_page_eq (M := M) k h
    have e3 := len_eq (M := M) (ns := ns) (ts := ts) (by omega)
    have e4 := bool_eq (M := M) (ns := ns) (ts := ts)
    have e5 := str_eq (M := M) k h
    let due : List D := [namesT ns, tiesT ts, .int ts.length, .bl true, .str (pageC ns ts)]
    have hpg := page_ok k h
    have hpl := page_len k h
    have sm : ∀ x ∈ due, Sm8 x 1500 := fun x hx => by
      have hx : x = namesT ns ∨ x = tiesT ts ∨ x = .int ts.length ∨ x = .bl true ∨ x = .str (pageC ns ts) := by simpa [due] using hx
      rcases hx with rfl | rfl | rfl | rfl | rfl
      · have q := sm_names k; exact ⟨q.p, q.l, q.s, Nat.le_trans q.k (by decide)⟩
      · have q := sm_ties k h; exact ⟨q.p, q.l, q.s, Nat.le_trans q.k (by decide)⟩
      · have q := sm_nat (n := ts.length) (by omega); exact ⟨q.p, q.l, q.s, Nat.le_trans q.k (by decide)⟩
      · have q := sm_bl (b := true); exact ⟨q.p, q.l, q.s, Nat.le_trans q.k (by decide)⟩
      · have q := sm_str hpg; exact ⟨q.p, q.l, q.s, Nat.le_trans q.k hpl⟩
    have e6 : pRepr [.lst due] M = .ok (.str (reprD (.lst due))) M := by
      have q := sm_seq sm
      have hp8 : pl 8 (.lst due) = true := by
        show due.all (pl 7) = true
        rw [List.all_eq_true]
        exact fun x hx => (sm x hx).p
      have h1 := PySem.PyData.shown_le_bulk 40 (by decide) (toPy (.lst due)) q.2.2.2.1
      have h2 : (reprD (.lst due)).length ≤ 10 * lim := by
        have e : (reprD (.lst due)).length = (toPy (.lst due)).shown.length := by rw [reprD_sof, sof_len]
        have hk := q.2.2.2.2.2
        rw [e]
        unfold lim
        have hd : due.length = 5 := rfl
        rw [hd] at hk
        have : 42 * (toPy (.lst due)).bulk ≤ 42 * 100000 := Nat.mul_le_mul_left _ (by omega)
        omega
      exact if_pos ⟨hp8, q.2.2.2.2.1, h2⟩
    have eb : ∀ b : Bool, pRepr [.bl b] M = .ok (.str (reprD (.bl b))) M := fun b => repr_ok sm_bl (by cases b <;> rfl) (by decide)
    refine go_mid (fun Γ M' => M' = M ∧ Γ = [.val (ruleD ns ts), .val (namesT ns), .val (tiesT ts), .no, .no, .no]) (by simp [start0, e0]; exact hold ⟨rfl, rfl⟩) ?_
    rintro Γ M' ⟨rfl, rfl⟩
    refine go_mid (fun Γ M => M = M' ∧ Γ = [.val (ruleD ns ts), .val (namesT ns), .val (tiesT ts), .val (.lst due), .no, .no]) (by simp [e1, e2]; exact hold ⟨rfl, rfl⟩) ?_
    rintro Γ M ⟨rfl, rfl⟩
    refine go_mid (fun Γ M' => M' = M ∧ Γ = [.val (ruleD ns ts), .val (namesT ns), .val (tiesT ts), .val (.lst due), .no, .no]) ?_ ?_
    · simp [fld_sorts, fld_links, e3, e4, e5]
      rw [show [namesT ns, tiesT ts, D.int ↑ts.length, D.bl true, D.str (pageC ns ts)] = due from rfl]
      simp [e6, ne_str]
      exact hold ⟨rfl, rfl⟩
    rintro Γ M' ⟨rfl, rfl⟩
    refine go_mid (fun Γ M => M = M' ∧ ∃ s4 s5, Γ = [.val (ruleD ns ts), .val (namesT ns), .val (tiesT ts), .val (.lst due), s4, s5]) ?_ ?_
    · have ei : items (namesT ns) = some (ns.map .str) := rfl
      simp only [evS_for, ev_var, wpS_vS, vAt_def, slotS, slot0, get_val, wp_ok, forS, ei]
      refine for_map (fun j Γ M => M = M' ∧ ∃ s4 s5, Γ = [.val (ruleD ns ts), .val (namesT ns), .val (tiesT ts), .val (.lst due), s4, s5]) ns _ _ ⟨rfl, _, _, rfl⟩ ?_ ?_
      · rintro j one Γ M hj ⟨rfl, s4, s5, rfl⟩
        have m1 : one ∈ ns := List.mem_of_getElem? hj
        simp only [turn, asgTg_n, setNS, setN0, evSs_cons, wpS_seq, evS_for, ev_var, wpS_vS, vAt_def, slotS, slot0, get_val, wp_ok, forS, ei]
        refine for_map (fun i Γ M' => M' = M ∧ ∃ s5, Γ = [.val (ruleD ns ts), .val (namesT ns), .val (tiesT ts), .val (.lst due), .val (.str one), s5]) ns _ _ ⟨rfl, _, rfl⟩ ?_ ?_
        · rintro i two Γ M' hi ⟨rfl, s5, rfl⟩
          have m2 : two ∈ ns := List.mem_of_getElem? hi
          have ht : okT (one, two) := ⟨nameC_ok (k.nm _ m1), nameC_ok (k.nm _ m2)⟩
          have q1 := in_rule (M := M') (t := (one, two)) k h m1 m2
          have q2 := has_eq (M := M') (t := (one, two)) ht (h.ok k.nm)
          have q3 : tieD (one, two) = .tup [.str one, .str two] := rfl
          rw [q3] at q1 q2
          simp [turn, q1, q2, eb, ne_str]
          exact hold ⟨rfl, _, rfl⟩
        · rintro Γ M' ⟨rfl, s5, rfl⟩
          simp
          exact hold ⟨rfl, _, _, rfl⟩
      · rintro Γ M ⟨rfl, s4, s5, rfl⟩
        exact hold ⟨rfl, s4, s5, rfl⟩
    rintro Γ M ⟨rfl, s4, s5, rfl⟩
    simp
  obtain ⟨a, M', e, rfl, rfl⟩ := key.ex
  exact e
end

end Pk

set_option Elab.async false
set_option linter.all false
set_option autoImplicit false
set_option maxRecDepth 100000
set_option maxHeartbeats 1000000
/-! RulesD: a tie less; rules compared. -/
namespace Pk
/-! ### equal tuples -/
theorem eqDs_map {α : Type} [DecidableEq α] {g : α → D} (he : ∀ a b, eqD (g a) (g b) = decide (a = b)) : ∀ xs ys : List α, eqDs (xs.map g) (ys.map g) = decide (xs = ys)
  | [], [] => by simp [eqDs]
  | [], _ :: _ => by simp [eqDs]
  | _ :: _, [] => by simp [eqDs]
  | x :: xs, y :: ys => by
    show (eqD (g x) (g y) && eqDs (xs.map g) (ys.map g)) = _
    rw [he, eqDs_map he xs ys, ← Bool.decide_and]
    apply decide_eq_decide.mpr
    simp
theorem cmp_tup {α : Type} [DecidableEq α] {g : α → D} {xs ys : List α} (he : ∀ a b, eqD (g a) (g b) = decide (a = b)) (h1 : ∀ x ∈ xs, pl 7 (g x) = true) (h2 : ∀ x ∈ ys, pl 7 (g x) = true) : cmp (.tup (xs.map g)) (.tup (ys.map g)) = some (decide (xs = ys)) := by
  rw [cmp_if (by rintro ⟨s, t, e, _⟩; cases e)]
  have e1 : pl 8 (.tup (xs.map g)) = true := by
    show (xs.map g).all (pl 7) = true
    rw [List.all_eq_true]
    intro d hd
    obtain ⟨x, hx, rfl⟩ := List.mem_map.mp hd
    exact h1 x hx
  have e2 : pl 8 (.tup (ys.map g)) = true := by
    show (ys.map g).all (pl 7) = true
    rw [List.all_eq_true]
    intro d hd
    obtain ⟨x, hx, rfl⟩ := List.mem_map.mp hd
    exact h2 x hx
  rw [e1, e2]
  show some (eqDs (xs.map g) (ys.map g)) = _
  rw [eqDs_map he]
theorem pl7_tie {t : Cs × Cs} (h : okT t) : pl 7 (tieD t) = true := by
  show (pl 6 (.str t.1) && (pl 6 (.str t.2) && true)) = true
  rw [pl_str7 h.1, pl_str7 h.2]; rfl
theorem eq_names {T : Tab} {M : Mem} {ns ms : List Cs} (h1 : ∀ s ∈ ns, nameC s = true) (h2 : ∀ s ∈ ms, nameC s = true) : pEq T [namesT ns, namesT ms] M = .ok (.bl (decide (ns = ms))) M := by
  show optB (cmp (.tup (ns.map .str)) (.tup (ms.map .str))) M = _
  rw [cmp_tup (g := D.str) eq_str' (fun s hs => pl_str7 (nameC_ok (h1 s hs))) (fun s hs => pl_str7 (nameC_ok (h2 s hs)))]
  rfl
theorem eq_ties {T : Tab} {M : Mem} {ts us : List (Cs × Cs)} (h1 : ∀ s ∈ ts, okT s) (h2 : ∀ s ∈ us, okT s) : pEq T [tiesT ts, tiesT us] M = .ok (.bl (decide (ts = us))) M := by
  show optB (cmp (.tup (ts.map tieD)) (.tup (us.map tieD))) M = _
  rw [cmp_tup (g := tieD) eq_tie (fun s hs => pl7_tie (h1 s hs)) (fun s hs => pl7_tie (h2 s hs))]
  simp
theorem eq_tieD {T : Tab} {M : Mem} {t u : Cs × Cs} (h1 : okT t) (h2 : okT u) : pEq T [tieD t, tieD u] M = .ok (.bl (decide (t = u))) M := by
  show optB (cmp (tieD t) (tieD u)) M = _
  rw [cmp_if (by rintro ⟨s, t, e, _⟩; cases e), pl_tie h1.1 h1.2, pl_tie h2.1 h2.2, Bool.and_self, if_pos rfl, eq_tie]
  rfl
section
variable {M : Mem} {ns ms : List Cs} {ts us : List (Cs × Cs)} {t : Cs × Cs}
theorem eq_ins {T : Tab} {c : String} {ns : List String} {vs : List D} {M : Mem} {x : D} : pEq T [.ins c ns vs, x] M = dunder T "__eq__" [.ins c ns vs, x] M := (rfl)
theorem eq_rule (k1 : ∀ s ∈ ns, nameC s = true) (k2 : ∀ s ∈ ms, nameC s = true) (h1 : ∀ t ∈ ts, okT t) (h2 : ∀ t ∈ us, okT t) : pEq tabR [ruleD ns ts, ruleD ms us] M = .ok (.bl (decide (ns = ms) && decide (ts = us))) M := by
  have e1 : F_Rule___eq__ [ruleD ns ts, ruleD ms us] M = .ok (.bl (decide (ns = ms) && decide (ts = us))) M := by
    have key : wp (F_Rule___eq__ [ruleD ns ts, ruleD ms us] M) fun d M' => d = .bl (decide (ns = ms) && decide (ts = us)) ∧ M' = M := by
      unfold F_Rule___eq__ ir_Rule___eq__
      refine fn_wp rfl ?_
      have e0 : pIsOwn sub_Rule [ruleD ms us] M = .ok (.bl true) M := by
        have : sub_Rule "Rule" = some true := by simp [sub_Rule]
        unfold ruleD
        show optB (sub_Rule "Rule") M = _
        rw [this]; rfl
      simp [start0, e0, fld_sorts, fld_links, eq_names k1 k2, eq_ties h1 h2]
      by_cases e : ns = ms <;> simp [e]
    obtain ⟨a, M', e, rfl, rfl⟩ := key.ex
    exact e
  have et : tabR "Rule" "__eq__" = some (rIns "Rule" (blF F_Rule___eq__)) := by simp [tabR]
  unfold ruleD at e1 ⊢
  rw [eq_ins, dun_eq et]
  show (if "Rule" = "Rule" then blF F_Rule___eq__ _ M else .stuck) = _
  rw [if_pos rfl, blF_eq e1]
/-- without a tie -/
def lessL (ts : List (Cs × Cs)) (t : Cs × Cs) : List (Cs × Cs) := ts.filter fun s => !(decide (s = t) || decide (s = swp t))
theorem Ties.filter {p : Cs × Cs → Bool} (h : Ties ns ts) : Ties ns (ts.filter p) := ⟨fun t ht => h.mem t (List.mem_filter.mp ht).1, h.pw.filter p⟩
theorem sub_ins {T : Tab} {c : String} {ns : List String} {vs : List D} {M : Mem} {x : D} : pSub T [.ins c ns vs, x] M = dunder T "__sub__" [.ins c ns vs, x] M := (rfl)
theorem sub_rule (k : Kinds ns) (h : Ties ns ts) (m : t.1 ∈ ns ∧ t.2 ∈ ns) (ht : told ts t = true) (hM : M.all (freeC M.length) = true) : pSub tabR [ruleD ns ts, tieD t] M = .ok (ruleD ns (lessL ts t)) M := by
  have ho : okT t := ⟨nameC_ok (k.nm _ m.1), nameC_ok (k.nm _ m.2)⟩
  have hs : okT (swp t) := ⟨ho.2, ho.1⟩
  have e1 : F_Rule___sub__ [ruleD ns ts, tieD t] M = .ok (ruleD ns (lessL ts t)) M := by
    have key : wp (F_Rule___sub__ [ruleD ns ts, tieD t] M) fun d M' => d = ruleD ns (lessL ts t) ∧ M' = M := by
      unfold F_Rule___sub__ ir_Rule___sub__
      refine fn_wp rfl ?_
      have i0 : pIx [tieD t, .int 0] M = .ok (.str t.1) M := by simp [tieD]
      have i1 : pIx [tieD t, .int 1] M = .ok (.str t.2) M := by simp [tieD]
      have e2 : compS [2] (.n 2) (.app (pNotIn tab0) (.cons (.var 2) (.cons (.app pTup (.cons (.var 1) (.cons (.app pTup (.cons (.app pIx (.cons (.var 1) (.cons (.const (.int 1)) .nil))) (.cons (.app pIx (.cons (.var 1) (.cons (.const (.int 0)) .nil))) .nil))) .nil))) .nil))) (.var 2) (tiesT ts) [.val (ruleD ns ts), .val (tieD t), .no] M = .ok (.lst ((lessL ts t).map tieD)) M := by
        refine compS_filter (g := tieD) (fun s => !(decide (s = t) || decide (s = swp t))) tieD rfl fun s hs' => ?_
        have hso := h.ok k.nm s hs'
        have e3 : pIn tab0 [tieD s, .tup [tieD t, .tup [.str t.2, .str t.1]]] M = .ok (.bl (decide (s = t) || decide (s = swp t))) M := by
          have q := in_ties (T := tab0) (M := M) (ts := [t, swp t]) (t := s) hso (by
            intro y hy
            simp at hy
            rcases hy with rfl | rfl
            · exact ho
            · exact hs)
          have e4 : tiesT [t, swp t] = .tup [tieD t, .tup [.str t.2, .str t.1]] := rfl
          rw [e4] at q
          rw [q]
          simp
        simp [turn1, notIn_def, i0, i1, e3]
        by_cases q1 : s = t <;> by_cases q2 : s = swp t <;> simp [q1, q2]
      simp [start0, fld_sorts, fld_links, is_tie_eq k.nm ho.1 ho.2, m.1, m.2, is_told_eq ho (h.ok k.nm), ht, e2]
      have e5 := rule_new (M := M) k (ts := lessL ts t) h.filter hM
      unfold tiesT at e5
      rw [e5]
      simp
    obtain ⟨a, M', e, rfl, rfl⟩ := key.ex
    exact e
  have et : tabR "Rule" "__sub__" = some (rT F_Rule___sub__) := by simp [tabR]
  unfold ruleD at e1 ⊢
  rw [sub_ins, dun_eq et]
  exact e1
end
end Pk

set_option Elab.async false
set_option linter.all false
set_option autoImplicit false
set_option maxRecDepth 100000
set_option maxHeartbeats 1000000
/-! RulesE: rules made of any values: which errors are due. -/
namespace Pk
/-! ### statements that may raise -/
@[simp] theorem seqS_err {e : D} {Γ : Env} {M : Mem} {r : Sms} : seqS (.err e Γ M) r = .err e Γ M := (rfl)
@[simp] theorem seqS_next {Γ : Env} {M : Mem} {r : Sms} : seqS (.next Γ M) r = evSs r Γ M := (rfl)
@[simp] theorem seqS_ret {d : D} {M : Mem} {r : Sms} : seqS (.ret d M) r = .ret d M := (rfl)
@[simp] theorem endS_err {e : D} {Γ : Env} {M : Mem} : endS (.err e Γ M) = .err e M := (rfl)
@[simp] theorem endS_next {Γ : Env} {M : Mem} : endS (.next Γ M) = .ok .non M := (rfl)
@[simp] theorem endS_ret {d : D} {M : Mem} : endS (.ret d M) = .ok d M := (rfl)
theorem fn_run {ps n : Nat} {b : Sms} {ds : List D} {M : Mem} (h : ds.length = ps) : fnSem ps n b ds M = endS (evSs b (start0 n ds) M) := by rw [fn_eq, if_pos h]
theorem fn_run1 {n : Nat} {b : Sms} {d : D} {M : Mem} : fnSem 1 n b [d] M = endS (evSs b (start0 n [d]) M) := fn_run rfl
theorem fn_run2 {n : Nat} {b : Sms} {d e : D} {M : Mem} : fnSem 2 n b [d, e] M = endS (evSs b (start0 n [d, e]) M) := fn_run rfl
theorem fn_run3 {n : Nat} {b : Sms} {d e f : D} {M : Mem} : fnSem 3 n b [d, e, f] M = endS (evSs b (start0 n [d, e, f]) M) := fn_run rfl
theorem fn_run4 {n : Nat} {b : Sms} {d e f g : D} {M : Mem} : fnSem 4 n b [d, e, f, g] M = endS (evSs b (start0 n [d, e, f, g]) M) := fn_run rfl
@[simp] theorem exc_def {c f : String} {d : D} {M : Mem} : pExc c f [d] M = .ok (.ins c [f] [d]) M := (rfl)
/-- try -/
def tryS (x : RS) (h : Hds) : RS := match x with
  | .err e Γ M => evH h e Γ M
  | r => r
@[simp] theorem evS_try {b : Sms} {h : Hds} {Γ : Env} {M : Mem} : evS (.try_ b h) Γ M = tryS (evSs b Γ M) h := (rfl)
@[simp] theorem tryS_next {h : Hds} {Γ : Env} {M : Mem} : tryS (.next Γ M) h = .next Γ M := (rfl)
@[simp] theorem tryS_ret {h : Hds} {d : D} {M : Mem} : tryS (.ret d M) h = .ret d M := (rfl)
@[simp] theorem tryS_err {h : Hds} {e : D} {Γ : Env} {M : Mem} : tryS (.err e Γ M) h = evH h e Γ M := (rfl)
theorem evH_cons {is : D → Option Bool} {i : Nat} {b : Sms} {r : Hds} {e : D} {Γ : Env} {M : Mem} : evH (.cons is (some i) b r) e Γ M = match is e with
    | none => .stuck
    | some true => hdS (some i) (if i < Γ.length then evSs b (setN Γ i e) M else .stuck)
    | some false => evH r e Γ M := (rfl)
theorem hdS_n {i : Nat} {Γ : Env} {M : Mem} : hdS (some i) (.next Γ M) = .next (Γ.set i .no) M := (rfl)
/-- an error as it lies -/
def exD (c f : String) (d : D) : D := .ins c [f] [d]
/-! ### names among any values -/
def kName : D → Bool
  | .str s => nameC s
  | _ => false
/-- values that stand in the place of a kind -/
def elK : D → Bool
  | .str s => decide (s.length ≤ 1000)
  | .ins _ _ _ => false
  | .ref _ => false
  | .scr _ => false
  | .cls _ => false
  | _ => true
theorem elK_isB {x : D} {T : String} (h : elK x = true) : ∃ b, isB T x = some b ∧ (T = "str" → b = match x with | .str _ => true | _ => false) := by
  cases x <;> first | exact ⟨_, rfl, fun e => by subst e; rfl⟩ | (simp [elK] at h)
theorem is_name_any {M : Mem} {x : D} (h : elK x = true) : F_is_name [x] M = .ok (.bl (kName x)) M := by
  by_cases hs : ∃ s, x = .str s
  · obtain ⟨s, rfl⟩ := hs
    exact is_name_eq (by have : s.length ≤ 1000 := of_decide_eq_true h; unfold lim; omega)
  · obtain ⟨b, e1, e2⟩ := elK_isB (T := "str") h
    have e2 := e2 rfl
    have eb : b = false := by rw [e2]; cases x <;> first | rfl | exact absurd ⟨_, rfl⟩ hs
    subst eb
    have ek : kName x = false := by cases x <;> first | rfl | exact absurd ⟨_, rfl⟩ hs
    have key : wp (F_is_name [x] M) fun d M' => d = .bl (kName x) ∧ M' = M := by
      unfold F_is_name ir_is_name
      refine fn_wp rfl ?_
      simp [start0, e1, ek]
    obtain ⟨a, M', e, rfl, rfl⟩ := key.ex
    exact e
/-- kinds, one after the other: all of them, or the index of the first that is none -/
def goK : List D → List Cs → Except Nat (List Cs)
  | [], acc => .ok acc
  | x :: xs, acc => match x with
    | .str s => if (nameC s && !decide (s ∈ acc) && decide (acc.length < 6)) = true then goK xs (acc ++ [s]) else .error acc.length
    | _ => .error acc.length
theorem goK_str {s : Cs} {xs : List D} {acc : List Cs} : goK (.str s :: xs) acc = if (nameC s && !decide (s ∈ acc) && decide (acc.length < 6)) = true then goK xs (acc ++ [s]) else .error acc.length := rfl
theorem goK_bad {x : D} {xs : List D} {acc : List Cs} (h : ∀ s, x ≠ .str s) : goK (x :: xs) acc = .error acc.length := by
  unfold goK
  split
  · exact absurd rfl (h _)
  · rfl
theorem goK_ok : ∀ {xs : List D} {acc ns : List Cs}, goK xs acc = .ok ns → acc.Nodup → (∀ s ∈ acc, nameC s = true) → acc.length ≤ 6 → xs = (ns.drop acc.length).map .str ∧ acc <+: ns ∧ ns.Nodup ∧ (∀ s ∈ ns, nameC s = true) ∧ ns.length ≤ 6
  | [], acc, ns, h, nd, nm, hl => by
    cases h
    exact ⟨by simp, List.prefix_refl _, nd, nm, hl⟩
  | x :: xs, acc, ns, h, nd, nm, hl => by
    by_cases hs : ∃ s, x = .str s
    · obtain ⟨s, rfl⟩ := hs
      rw [goK_str] at h
      by_cases c : (nameC s && !decide (s ∈ acc) && decide (acc.length < 6)) = true
      · rw [if_pos c] at h
        simp only [Bool.and_eq_true, Bool.not_eq_true', decide_eq_false_iff_not, decide_eq_true_eq] at c
        obtain ⟨⟨c1, c2⟩, c3⟩ := c
        have nd' : (acc ++ [s]).Nodup := by
          rw [List.nodup_append]
          refine ⟨nd, by simp, fun a ha b hb => ?_⟩
          rw [List.mem_singleton.mp hb]
          exact fun e => c2 (e ▸ ha)
        obtain ⟨h1, h2, h3⟩ := goK_ok h nd' (fun t ht => by
          rcases List.mem_append.mp ht with ht | ht
          · exact nm t ht
          · rw [List.mem_singleton.mp ht]; exact c1) (by simp; omega)
        refine ⟨?_, (List.prefix_append _ _).trans h2, h3⟩
        obtain ⟨r, rfl⟩ := h2
        rw [h1]
        simp
      · rw [if_neg c] at h; cases h
    · rw [goK_bad fun s e => hs ⟨s, e⟩] at h; cases h
theorem goK_kinds {xs : List D} {ns : List Cs} (h : goK xs [] = .ok ns) (hne : xs ≠ []) : Kinds ns ∧ xs = ns.map .str := by
  obtain ⟨h1, _, h3, h4, h5⟩ := goK_ok h List.nodup_nil (fun _ h => nomatch h) (Nat.zero_le _)
  have h1 : xs = ns.map .str := by simpa using h1
  refine ⟨⟨h3, h4, ?_, h5⟩, h1⟩
  cases ns with
  | nil => exact absurd h1 hne
  | cons s ns => simp
theorem goK_lt : ∀ {xs : List D} {acc : List Cs} {i : Nat}, goK xs acc = .error i → i < acc.length + xs.length
  | [], acc, i, h => by cases h
  | x :: xs, acc, i, h => by
    by_cases hs : ∃ s, x = .str s
    · obtain ⟨s, rfl⟩ := hs
      rw [goK_str] at h
      by_cases c : (nameC s && !decide (s ∈ acc) && decide (acc.length < 6)) = true
      · rw [if_pos c] at h
        have := goK_lt h
        simp at this ⊢
        omega
      · rw [if_neg c] at h
        cases h
        simp
    · rw [goK_bad fun s e => hs ⟨s, e⟩] at h
      cases h
      simp
def exN : Except Nat (List Cs) → D
  | .ok _ => .non
  | .error i => .int i
/-- at turn j: what was before are names, all different -/
structure AtK (xs : List D) (j : Nat) (acc : List Cs) : Prop where
  len : acc.length = j
  pre : xs.take j = acc.map .str
  nm : ∀ s ∈ acc, nameC s = true
  go : goK xs [] = goK (xs.drop j) acc
theorem AtK.zero {xs : List D} : AtK xs 0 [] := ⟨rfl, rfl, fun _ h => (nomatch h), rfl⟩
theorem AtK.next {xs : List D} {j : Nat} {acc : List Cs} {s : Cs} (h : AtK xs j acc) (hx : xs[j]? = some (.str s)) (c : (nameC s && !decide (s ∈ acc) && decide (acc.length < 6)) = true) : AtK xs (j + 1) (acc ++ [s]) := by
  have hj : j < xs.length := (List.getElem?_eq_some_iff.mp hx).1
  have e : xs.drop j = .str s :: xs.drop (j + 1) := by rw [List.drop_eq_getElem_cons hj, (List.getElem?_eq_some_iff.mp hx).2]
  refine ⟨by simp [h.len], ?_, fun t ht => ?_, ?_⟩
  · rw [List.take_succ, hx, h.pre]; simp
  · rcases List.mem_append.mp ht with ht | ht
    · exact h.nm t ht
    · rw [List.mem_singleton.mp ht]
      simp only [Bool.and_eq_true] at c
      exact c.1.1
  · rw [h.go, e, goK_str, if_pos c]
theorem AtK.stop {xs : List D} {j : Nat} {acc : List Cs} {s : Cs} (h : AtK xs j acc) (hx : xs[j]? = some (.str s)) (c : ¬ (nameC s && !decide (s ∈ acc) && decide (acc.length < 6)) = true) : goK xs [] = .error j := by
  have hj : j < xs.length := (List.getElem?_eq_some_iff.mp hx).1
  have e : xs.drop j = .str s :: xs.drop (j + 1) := by rw [List.drop_eq_getElem_cons hj, (List.getElem?_eq_some_iff.mp hx).2]
  rw [h.go, e, goK_str, if_neg c, h.len]
theorem AtK.bad {xs : List D} {j : Nat} {acc : List Cs} {x : D} (h : AtK xs j acc) (hx : xs[j]? = some x) (hs : ∀ s, x ≠ .str s) : goK xs [] = .error j := by
  have hj : j < xs.length := (List.getElem?_eq_some_iff.mp hx).1
  have e : xs.drop j = x :: xs.drop (j + 1) := by rw [List.drop_eq_getElem_cons hj, (List.getElem?_eq_some_iff.mp hx).2]
  rw [h.go, e, goK_bad hs, h.len]
theorem AtK.end_ {xs : List D} {acc : List Cs} (h : AtK xs xs.length acc) : goK xs [] = .ok acc := by
  rw [h.go, List.drop_length]; rfl
theorem wrong_kind_any {M : Mem} {xs : List D} (h : ∀ x ∈ xs, elK x = true) : F_wrong_kind [.tup xs] M = .ok (exN (goK xs [])) M := by
  have key : wp (F_wrong_kind [.tup xs] M) fun d M' => d = exN (goK xs []) ∧ M' = M := by
    unfold F_wrong_kind ir_wrong_kind
    refine fn_wp rfl ?_
    refine go_for (isV (fun d => d = .lst (xs.zipIdx.map fun p => .tup [.int (p.2 : Nat), p.1])) M) ?_ ?_
    · have := enumL_map (fun x : D => x) xs 0
      rw [List.map_id'] at this
      simp [start0]
      exact hold ⟨rfl, by simpa using this⟩
    rintro d M' ⟨rfl, rfl⟩
    simp only [forS, items_lst]
    refine for_map (fun j Γ M => M = M' ∧ ∃ acc s1 s2, AtK xs j acc ∧ Γ = [.val (.tup xs), s1, s2]) xs.zipIdx _ _ ⟨rfl, [], _, _, .zero, rfl⟩ ?_ ?_
    · rintro j ⟨x, i⟩ Γ M hx ⟨rfl, acc, s1, s2, ha, rfl⟩
      obtain ⟨rfl, hx⟩ := zip_at hx
      have hj : i < xs.length := (List.getElem?_eq_some_iff.mp hx).1
      have hm : x ∈ xs := List.mem_of_getElem? hx
      have e1 := fun M => is_name_any (M := M) (h x hm)
      have e2 : cutD (.tup xs) none (some (i : Int)) = some (namesT acc) := by
        rw [cutD_tup, cut_take (by omega), ha.pre]; rfl
      by_cases hs : ∃ s, x = .str s
      · obtain ⟨s, rfl⟩ := hs
        have hk : kName (.str s) = nameC s := rfl
        rw [hk] at e1
        cases hn : nameC s with
        | false =>
          rw [hn] at e1
          have st := ha.stop hx (by simp [hn])
          simp [turn, e1, st, exN]
        | true =>
          rw [hn] at e1
          have e3 := in_names (T := tab0) (M := M) (ns := acc) (a := s) ha.nm (nameC_ok hn)
          by_cases c2 : s ∈ acc
          · have st := ha.stop hx (by simp [c2])
            simp [turn, e1, e2, e3, c2, st, exN]
          · by_cases c3 : i < 6
            · have c4 : ¬ (6 : Int) ≤ (i : Int) := by omega
              have nx := ha.next hx (by simp [hn, c2, ha.len, c3])
              simp [turn, e1, e2, e3, c2, c4]
              exact hold ⟨rfl, _, _, _, nx, rfl⟩
            · have c4 : (6 : Int) ≤ (i : Int) := by omega
              have st := ha.stop hx (by simp [ha.len, c3])
              simp [turn, e1, e2, e3, c2, c4, st, exN]
      · have hk : kName x = false := by cases x <;> first | rfl | exact absurd ⟨_, rfl⟩ hs
        rw [hk] at e1
        have st := ha.bad hx fun s e => hs ⟨s, e⟩
        simp [turn, e1, st, exN]
    · rintro Γ M ⟨rfl, acc, s1, s2, ha, rfl⟩
      rw [List.length_zipIdx] at ha
      have st := ha.end_
      simp [st, exN]
  obtain ⟨a, M', e, rfl, rfl⟩ := key.ex
  exact e
/-- what stands in the place of the kinds -/
def elKs : D → Bool
  | .tup xs => xs.all elK
  | x => elK x
/-- the kinds that a value is, or what is told of it -/
def dueK : D → Except D (List Cs)
  | .tup [] => .error .non
  | .tup xs => match goK xs [] with
    | .ok ns => .ok ns
    | .error i => .error (.int i)
  | _ => .error .non
theorem check_kinds_any {M : Mem} {x : D} (h : elKs x = true) : F_check_new_kinds [x] M = match dueK x with
    | .ok _ => .ok .non M
    | .error d => .err (exD "InvalidKinds" "index" d) M := by
  by_cases ht : ∃ xs, x = .tup xs
  · obtain ⟨xs, rfl⟩ := ht
    have e1 : isB "tuple" (.tup xs) = some true := rfl
    cases xs with
    | nil =>
      unfold F_check_new_kinds ir_check_new_kinds
      rw [fn_run1]
      simp [start0, e1, dueK, exD]
    | cons y ys =>
      have hn : ¬ ((ys.length : Int) + 1 = 0) := by omega
      have e2 := fun M => wrong_kind_any (M := M) (xs := y :: ys) (fun z hz => List.all_eq_true.mp h z hz)
      have ed : dueK (.tup (y :: ys)) = match goK (y :: ys) [] with
        | .ok ns => .ok ns
        | .error i => .error (.int i) := rfl
      rw [ed]
      unfold F_check_new_kinds ir_check_new_kinds
      rw [fn_run1]
      cases q : goK (y :: ys) [] with
      | ok ns =>
        rw [q] at e2
        simp [start0, e1, hn, e2, exN]
      | error i =>
        rw [q] at e2
        simp [start0, e1, hn, e2, exN, exD]
  · have hx : elK x = true := by cases x <;> first | exact h | exact absurd ⟨_, rfl⟩ ht
    have e1 : isB "tuple" x = some false := by cases x <;> first | rfl | (simp [elK] at hx; done) | exact absurd ⟨_, rfl⟩ ht
    have ed : dueK x = .error .non := by cases x <;> first | rfl | exact absurd ⟨_, rfl⟩ ht
    rw [ed]
    unfold F_check_new_kinds ir_check_new_kinds
    rw [fn_run1]
    simp [start0, e1, exD]
theorem dueK_ok {x : D} {ns : List Cs} (h : dueK x = .ok ns) : Kinds ns ∧ x = namesT ns := by
  unfold dueK at h
  split at h
  · cases h
  · rename_i xs hne
    split at h
    · rename_i ms hg
      cases h
      obtain ⟨k, e⟩ := goK_kinds hg (fun e => hne e)
      exact ⟨k, by rw [e]; rfl⟩
    · cases h
  · cases h
end Pk

set_option Elab.async false
set_option linter.all false
set_option autoImplicit false
set_option maxRecDepth 100000
set_option maxHeartbeats 1000000
/-! RulesF: ties of any values; Rule(..) of any values. -/
namespace Pk
def tieOf : D → Option (Cs × Cs)
  | .tup [.str a, .str b] => some (a, b)
  | _ => none
/-- values that may be looked for among names -/
def inOk (x : D) : Bool := pl 8 x || isDictD x
theorem inOk_pl {x : D} (h : pl 8 x = true) : inOk x = true := by unfold inOk; rw [h]; rfl
/-- values that stand in the place of a tie -/
def elT : D → Bool
  | .tup [a, b] => inOk a && inOk b
  | .tup _ => true
  | x => elK x
def strIn (ns : List Cs) : D → Bool
  | .str s => decide (s ∈ ns)
  | _ => false
theorem in_names_any {T : Tab} {M : Mem} {ns : List Cs} {x : D} (hn : ∀ s ∈ ns, nameC s = true) (h : inOk x = true) : pIn T [x, namesT ns] M = .ok (.bl (strIn ns x)) M := by
  by_cases hd : isDictD x = true
  · have h0 : strIn ns x = false := by cases x <;> first | rfl | cases hd
    have h1 : pl 8 x = false := by cases x <;> first | rfl | cases hd
    have h2 : (ns.map D.str).all isStrD = true := by rw [List.all_eq_true]; intro d hd; obtain ⟨y, _, rfl⟩ := List.mem_map.mp hd; rfl
    unfold namesT
    rw [in_tup]
    unfold inL
    rw [h0, h1, hd, h2]
    rfl
  have h : pl 8 x = true := by
    unfold inOk at h
    rw [Bool.or_eq_true] at h
    exact h.resolve_right hd
  by_cases hs : ∃ s, x = .str s
  · obtain ⟨s, rfl⟩ := hs
    exact in_names hn (by rw [← pl_str (n := 8)]; exact h)
  · unfold namesT
    rw [in_tup]
    unfold inL
    have h1 : (pl 8 x && (ns.map D.str).all (pl 8)) = true := by
      rw [h, Bool.true_and, List.all_eq_true]
      intro d hd
      obtain ⟨y, hy, rfl⟩ := List.mem_map.mp hd
      rw [pl_str]; exact nameC_ok (hn y hy)
    rw [if_pos h1]
    have h2 : ((ns.map D.str).any fun y => eqD y x) = false := by
      rw [List.any_eq_false]
      intro d hd
      obtain ⟨y, hy, rfl⟩ := List.mem_map.mp hd
      cases x <;> first | (intro z; cases z; done) | exact absurd ⟨_, rfl⟩ hs
    rw [h2]
    cases x <;> first | rfl | exact absurd ⟨_, rfl⟩ hs
def tieIn (ns : List Cs) (x : D) : Bool := match tieOf x with
  | some t => decide (t.1 ∈ ns) && decide (t.2 ∈ ns)
  | none => false
theorem is_tie_any {M : Mem} {ns : List Cs} {x : D} (hn : ∀ s ∈ ns, nameC s = true) (h : elT x = true) : F_is_tie [x, namesT ns] M = .ok (.bl (tieIn ns x)) M := by
  have key : wp (F_is_tie [x, namesT ns] M) fun d M' => d = .bl (tieIn ns x) ∧ M' = M := by
    by_cases ht : ∃ xs, x = .tup xs
    · obtain ⟨xs, rfl⟩ := ht
      have e1 : isB "tuple" (.tup xs) = some true := rfl
      match xs, h, e1 with
      | [], _, e1 =>
        unfold F_is_tie ir_is_tie
        refine fn_wp rfl ?_
        simp [start0, e1, tieIn, tieOf]
      | [_], _, e1 =>
        unfold F_is_tie ir_is_tie
        refine fn_wp rfl ?_
        simp [start0, e1, tieIn, tieOf]
      | [a, b], h, e1 =>
        have h : (inOk a && inOk b) = true := h
        rw [Bool.and_eq_true] at h
        have i1 := fun M => in_names_any (T := tab0) (M := M) hn h.1
        have i2 := fun M => in_names_any (T := tab0) (M := M) hn h.2
        have et : tieIn ns (.tup [a, b]) = (strIn ns a && strIn ns b) := by
          cases a <;> cases b <;> simp [tieIn, tieOf, strIn]
        rw [et]
        generalize strIn ns a = u at i1 ⊢
        generalize strIn ns b = v at i2 ⊢
        unfold F_is_tie ir_is_tie
        refine fn_wp rfl ?_
        cases u <;> cases v <;> simp [start0, e1, i1, i2]
      | a :: b :: c :: r, _, e1 =>
        have hl : ¬ ((r.length : Int) + 1 + 1 + 1 = 2) := by omega
        have et : tieIn ns (.tup (a :: b :: c :: r)) = false := by unfold tieIn tieOf; simp
        rw [et]
        unfold F_is_tie ir_is_tie
        refine fn_wp rfl ?_
        simp [start0, e1, hl]
    · have hx : elK x = true := by cases x <;> first | exact h | exact absurd ⟨_, rfl⟩ ht
      have e1 : isB "tuple" x = some false := by cases x <;> first | rfl | (simp [elK] at hx; done) | exact absurd ⟨_, rfl⟩ ht
      have et : tieIn ns x = false := by cases x <;> first | rfl | exact absurd ⟨_, rfl⟩ ht
      rw [et]
      unfold F_is_tie ir_is_tie
      refine fn_wp rfl ?_
      simp [start0, e1]
  obtain ⟨a, M', e, rfl, rfl⟩ := key.ex
  exact e
def goT (ns : List Cs) : List D → List (Cs × Cs) → Except Nat (List (Cs × Cs))
  | [], acc => .ok acc
  | x :: xs, acc => match tieOf x with
    | some t => if (decide (t.1 ∈ ns) && decide (t.2 ∈ ns) && !told acc t) = true then goT ns xs (acc ++ [t]) else .error acc.length
    | none => .error acc.length
theorem tieOf_some {x : D} {t : Cs × Cs} (h : tieOf x = some t) : x = tieD t := by
  unfold tieOf at h
  split at h
  · cases h; rfl
  · cases h
theorem goT_tie {ns : List Cs} {x : D} {t : Cs × Cs} {xs : List D} {acc : List (Cs × Cs)} (h : tieOf x = some t) : goT ns (x :: xs) acc = if (decide (t.1 ∈ ns) && decide (t.2 ∈ ns) && !told acc t) = true then goT ns xs (acc ++ [t]) else .error acc.length := by
  show (match tieOf x with
    | some t => if (decide (t.1 ∈ ns) && decide (t.2 ∈ ns) && !told acc t) = true then goT ns xs (acc ++ [t]) else .error acc.length
    | none => .error acc.length) = _
  rw [h]
theorem goT_bad {ns : List Cs} {x : D} {xs : List D} {acc : List (Cs × Cs)} (h : tieOf x = none) : goT ns (x :: xs) acc = .error acc.length := by
  show (match tieOf x with
    | some t => if (decide (t.1 ∈ ns) && decide (t.2 ∈ ns) && !told acc t) = true then goT ns xs (acc ++ [t]) else .error acc.length
    | none => .error acc.length) = _
  rw [h]
theorem told_pw {ts : List (Cs × Cs)} {t : Cs × Cs} (h : told ts t = false) : ∀ s ∈ ts, s ≠ t ∧ s ≠ swp t := fun s hs => by
  unfold told at h
  rw [Bool.or_eq_false_iff] at h
  simp only [decide_eq_false_iff_not] at h
  exact ⟨fun e => h.1 (e ▸ hs), fun e => h.2 (e ▸ hs)⟩
theorem Ties.add {ns : List Cs} {ts : List (Cs × Cs)} {t : Cs × Cs} (h : Ties ns ts) (h1 : t.1 ∈ ns) (h2 : t.2 ∈ ns) (h3 : told ts t = false) : Ties ns (ts ++ [t]) := by
  refine ⟨fun s hs => ?_, List.pairwise_append.mpr ⟨h.pw, List.pairwise_singleton .., fun s hs u hu => ?_⟩⟩
  · rcases List.mem_append.mp hs with hs | hs
    · exact h.mem s hs
    · rw [List.mem_singleton.mp hs]; exact ⟨h1, h2⟩
  · rw [List.mem_singleton.mp hu]
    exact told_pw h3 s hs
theorem goT_ok {ns : List Cs} : ∀ {xs : List D} {acc ts : List (Cs × Cs)}, goT ns xs acc = .ok ts → Ties ns acc → xs = (ts.drop acc.length).map tieD ∧ acc <+: ts ∧ Ties ns ts
  | [], acc, ts, h, ha => by
    cases h
    exact ⟨by simp, List.prefix_refl _, ha⟩
  | x :: xs, acc, ts, h, ha => by
    cases q : tieOf x with
    | none => rw [goT_bad q] at h; cases h
    | some t =>
      rw [goT_tie q] at h
      by_cases c : (decide (t.1 ∈ ns) && decide (t.2 ∈ ns) && !told acc t) = true
      · rw [if_pos c] at h
        simp only [Bool.and_eq_true, Bool.not_eq_true', decide_eq_true_eq] at c
        obtain ⟨⟨c1, c2⟩, c3⟩ := c
        obtain ⟨h1, h2, h3⟩ := goT_ok h (ha.add c1 c2 c3)
        refine ⟨?_, (List.prefix_append _ _).trans h2, h3⟩
        obtain ⟨r, rfl⟩ := h2
        rw [tieOf_some q, h1]
        simp
      · rw [if_neg c] at h; cases h
theorem goT_ties {ns : List Cs} {xs : List D} {ts : List (Cs × Cs)} (h : goT ns xs [] = .ok ts) : Ties ns ts ∧ xs = ts.map tieD := by
  obtain ⟨h1, _, h3⟩ := goT_ok h ⟨(fun _ h => nomatch h), List.Pairwise.nil⟩
  exact ⟨h3, by simpa using h1⟩
/-- at turn j: what was before are ties -/
structure AtT (ns : List Cs) (xs : List D) (j : Nat) (acc : List (Cs × Cs)) : Prop where
  len : acc.length = j
  pre : xs.take j = acc.map tieD
  ok : Ties ns acc
  go : goT ns xs [] = goT ns (xs.drop j) acc
section
variable {ns : List Cs} {xs : List D} {j : Nat} {acc : List (Cs × Cs)} {x : D} {t : Cs × Cs}
theorem AtT.zero : AtT ns xs 0 [] := ⟨rfl, rfl, ⟨(fun _ h => nomatch h), List.Pairwise.nil⟩, rfl⟩
theorem AtT.cut (hx : xs[j]? = some x) : xs.drop j = x :: xs.drop (j + 1) := by
  have hj : j < xs.length := (List.getElem?_eq_some_iff.mp hx).1
  rw [List.drop_eq_getElem_cons hj, (List.getElem?_eq_some_iff.mp hx).2]
theorem AtT.next (h : AtT ns xs j acc) (hx : xs[j]? = some x) (q : tieOf x = some t) (c1 : t.1 ∈ ns) (c2 : t.2 ∈ ns) (c3 : told acc t = false) : AtT ns xs (j + 1) (acc ++ [t]) := by
  refine ⟨by simp [h.len], ?_, h.ok.add c1 c2 c3, ?_⟩
  · rw [List.take_succ, hx, h.pre, tieOf_some q]; simp
  · rw [h.go, AtT.cut hx, goT_tie q, if_pos (by simp [c1, c2, c3])]
theorem AtT.stop (h : AtT ns xs j acc) (hx : xs[j]? = some x) (q : tieOf x = some t) (c : ¬ (decide (t.1 ∈ ns) && decide (t.2 ∈ ns) && !told acc t) = true) : goT ns xs [] = .error j := by
  rw [h.go, AtT.cut hx, goT_tie q, if_neg c, h.len]
theorem AtT.bad (h : AtT ns xs j acc) (hx : xs[j]? = some x) (q : tieOf x = none) : goT ns xs [] = .error j := by
  rw [h.go, AtT.cut hx, goT_bad q, h.len]
theorem AtT.end_ (h : AtT ns xs xs.length acc) : goT ns xs [] = .ok acc := by
  rw [h.go, List.drop_length]; rfl
end
def exT : Except Nat (List (Cs × Cs)) → D
  | .ok _ => .non
  | .error i => .int i
theorem wrong_tie_any {M : Mem} {ns : List Cs} {xs : List D} (hn : ∀ s ∈ ns, nameC s = true) (h : ∀ x ∈ xs, elT x = true) : F_wrong_tie [.tup xs, namesT ns] M = .ok (exT (goT ns xs [])) M := by
  have key : wp (F_wrong_tie [.tup xs, namesT ns] M) fun d M' => d = exT (goT ns xs []) ∧ M' = M := by
    unfold F_wrong_tie ir_wrong_tie
    refine fn_wp rfl ?_
    refine go_for (isV (fun d => d = .lst (xs.zipIdx.map fun p => .tup [.int (p.2 : Nat), p.1])) M) ?_ ?_
    · have := enumL_map (fun x : D => x) xs 0
      rw [List.map_id'] at this
      simp [start0]
      exact hold ⟨rfl, by simpa using this⟩
    rintro d M' ⟨rfl, rfl⟩
    simp only [forS, items_lst]
    refine for_map (fun j Γ M => M = M' ∧ ∃ acc s1 s2, AtT ns xs j acc ∧ Γ = [.val (.tup xs), .val (namesT ns), s1, s2]) xs.zipIdx _ _ ⟨rfl, [], _, _, .zero, rfl⟩ ?_ ?_
    · rintro j ⟨x, i⟩ Γ M hx ⟨rfl, acc, s1, s2, ha, rfl⟩
      obtain ⟨rfl, hx⟩ := zip_at hx
      have hj : i < xs.length := (List.getElem?_eq_some_iff.mp hx).1
      have hm : x ∈ xs := List.mem_of_getElem? hx
      have e1 := fun M => is_tie_any (M := M) hn (h x hm)
      have e2 : cutD (.tup xs) none (some (i : Int)) = some (tiesT acc) := by
        rw [cutD_tup, cut_take (by omega), ha.pre]; rfl
      cases q : tieOf x with
      | none =>
        have et : tieIn ns x = false := by unfold tieIn; rw [q]
        rw [et] at e1
        have st := ha.bad hx q
        simp [turn, e1, st, exT]
      | some t =>
        have et : tieIn ns x = (decide (t.1 ∈ ns) && decide (t.2 ∈ ns)) := by unfold tieIn; rw [q]
        rw [et] at e1
        by_cases c : t.1 ∈ ns ∧ t.2 ∈ ns
        · obtain ⟨c1, c2⟩ := c
          have ot : okT t := ⟨nameC_ok (hn _ c1), nameC_ok (hn _ c2)⟩
          have e3 := fun M => is_told_eq (M := M) (ts := acc) (t := t) ot (ha.ok.ok hn)
          rw [← tieOf_some q] at e3
          cases c3 : told acc t with
          | false =>
            rw [c3] at e3
            have nx := ha.next hx q c1 c2 c3
            simp [turn, e1, e2, e3, c1, c2]
            exact hold ⟨rfl, _, _, _, nx, rfl⟩
          | true =>
            rw [c3] at e3
            have st := ha.stop hx q (by simp [c3])
            simp [turn, e1, e2, e3, c1, c2, st, exT]
        · have ef : (decide (t.1 ∈ ns) && decide (t.2 ∈ ns)) = false := by
            rw [Bool.and_eq_false_iff]
            by_cases c1 : t.1 ∈ ns
            · exact .inr (by simpa using fun c2 => c ⟨c1, c2⟩)
            · exact .inl (by simpa using c1)
          rw [ef] at e1
          have st := ha.stop hx q (by rw [ef]; simp)
          simp [turn, e1, st, exT]
    · rintro Γ M ⟨rfl, acc, s1, s2, ha, rfl⟩
      rw [List.length_zipIdx] at ha
      have st := ha.end_
      simp [st, exT]
  obtain ⟨a, M', e, rfl, rfl⟩ := key.ex
  exact e
def elTs : D → Bool
  | .tup xs => xs.all elT
  | x => elK x
/-- the ties that a value is, or what is told of it -/
def dueT (ns : List Cs) : D → Except D (List (Cs × Cs))
  | .tup xs => match goT ns xs [] with
    | .ok ts => .ok ts
    | .error i => .error (.int i)
  | _ => .error .non
theorem check_ties_any {M : Mem} {ns : List Cs} {x : D} (hn : ∀ s ∈ ns, nameC s = true) (h : elTs x = true) : F_check_ties [x, namesT ns] M = match dueT ns x with
    | .ok _ => .ok .non M
    | .error d => .err (exD "InvalidTies" "index" d) M := by
  by_cases ht : ∃ xs, x = .tup xs
  · obtain ⟨xs, rfl⟩ := ht
    have e1 : isB "tuple" (.tup xs) = some true := rfl
    have e2 := fun M => wrong_tie_any (M := M) (xs := xs) hn (fun z hz => List.all_eq_true.mp h z hz)
    have ed : dueT ns (.tup xs) = match goT ns xs [] with
      | .ok ts => .ok ts
      | .error i => .error (.int i) := rfl
    rw [ed]
    unfold F_check_ties ir_check_ties
    rw [fn_run2]
    cases q : goT ns xs [] with
    | ok ts =>
      rw [q] at e2
      simp [start0, e1, e2, exT]
    | error i =>
      rw [q] at e2
      simp [start0, e1, e2, exT, exD]
  · have hx : elK x = true := by cases x <;> first | exact h | exact absurd ⟨_, rfl⟩ ht
    have e1 : isB "tuple" x = some false := by cases x <;> first | rfl | (simp [elK] at hx; done) | exact absurd ⟨_, rfl⟩ ht
    have ed : dueT ns x = .error .non := by cases x <;> first | rfl | exact absurd ⟨_, rfl⟩ ht
    rw [ed]
    unfold F_check_ties ir_check_ties
    rw [fn_run2]
    simp [start0, e1, exD]
theorem dueT_ok {ns : List Cs} {x : D} {ts : List (Cs × Cs)} (h : dueT ns x = .ok ts) : Ties ns ts ∧ x = tiesT ts := by
  unfold dueT at h
  split at h
  · split at h
    · rename_i ms hg
      cases h
      obtain ⟨k, e⟩ := goT_ties hg
      exact ⟨k, by rw [e]; rfl⟩
    · cases h
  · cases h
/-- Rule(heads, links) -/
def dueR (heads links : D) : Except (String × D) (List Cs × List (Cs × Cs)) := match dueK heads with
  | .error d => .error ("InvalidKinds", d)
  | .ok ns => match dueT ns links with
    | .error d => .error ("InvalidTies", d)
    | .ok ts => .ok (ns, ts)
def outR (M : Mem) : Except (String × D) (List Cs × List (Cs × Cs)) → Res D
  | .error (c, d) => .err (exD c "index" d) M
  | .ok (ns, ts) => .ok (ruleD ns ts) M
theorem dueK_free {x d : D} (h : dueK x = .error d) (k : Nat) : freeD k d = true := by
  unfold dueK at h
  split at h
  · cases h; rfl
  · split at h
    · cases h
    · cases h; rfl
  · cases h; rfl
theorem dueT_free {ns : List Cs} {x d : D} (h : dueT ns x = .error d) (k : Nat) : freeD k d = true := by
  unfold dueT at h
  split at h
  · split at h
    · cases h
    · cases h; rfl
  · cases h; rfl
theorem mkV_err {c : String} {F : Fn} {ds : List D} {M : Mem} {e : D} (h : F (.ref M.length :: ds) (M ++ [.ins c [] []]) = .err e (M ++ [.ins c [] []])) (hM : M.all (freeC M.length) = true) (he : freeD M.length e = true) : mkV c F ds M = .err e M := by
  unfold mkV
  rw [h]
  show (if _ then _ else _) = _
  rw [if_pos ⟨by simp, by simpa using hM, he⟩]
  simp
theorem rule_any {M : Mem} {heads links : D} (h1 : elKs heads = true) (h2 : elTs links = true) (hM : M.all (freeC M.length) = true) : mkV "Rule" F_Rule___init__ [heads, links] M = outR M (dueR heads links) := by
  cases q : dueK heads with
  | error d =>
    have er : outR M (dueR heads links) = .err (exD "InvalidKinds" "index" d) M := by unfold dueR; rw [q]; rfl
    rw [er]
    refine mkV_err ?_ hM ?_
    · have e1 := fun M => check_kinds_any (M := M) h1
      rw [q] at e1
      unfold F_Rule___init__ ir_Rule___init__
      rw [fn_run3]
      simp [start0, e1]
    · show (freeD M.length d && true) = true
      rw [dueK_free q]; rfl
  | ok ns =>
    obtain ⟨kk, rfl⟩ := dueK_ok q
    cases q2 : dueT ns links with
    | error d =>
      have er : outR M (dueR (namesT ns) links) = .err (exD "InvalidTies" "index" d) M := by
        unfold dueR
        rw [q]
        show outR M (match dueT ns links with
          | .error d => .error ("InvalidTies", d)
          | .ok ts => .ok (ns, ts)) = _
        rw [q2]; rfl
      rw [er]
      refine mkV_err ?_ hM ?_
      · have e1 := fun M => check_kinds_ok (M := M) kk
        have e2 := fun M => check_ties_any (M := M) kk.nm h2
        rw [q2] at e2
        unfold F_Rule___init__ ir_Rule___init__
        rw [fn_run3]
        simp [start0, e1, e2]
      · show (freeD M.length d && true) = true
        rw [dueT_free q2]; rfl
    | ok ts =>
      obtain ⟨ht, rfl⟩ := dueT_ok q2
      have er : outR M (dueR (namesT ns) (tiesT ts)) = .ok (ruleD ns ts) M := by
        unfold dueR
        rw [q]
        show outR M (match dueT ns (tiesT ts) with
          | .error d => .error ("InvalidTies", d)
          | .ok ts => .ok (ns, ts)) = _
        rw [q2]; rfl
      rw [er]
      exact rule_new kk ht hM
end Pk

set_option Elab.async false
set_option linter.all false
set_option autoImplicit false
set_option maxRecDepth 100000
set_option maxHeartbeats 4000000
namespace Pk
noncomputable section
def ir__law_is_name : Sms := .cons (.ite (.orV (.notV (.app (pIsinst "str") (.cons (.var 0) .nil))) (.notV (.chain (pLe) (pLe) (.const (.int 1)) (.app (pLen tab0) (.cons (.var 0) .nil)) (.const (.int 8))))) (.cons (.ret (.const (.bl false))) (.nil)) (.nil)) (.cons (.asg (.n 1) (.const (.str [97, 98, 99, 100, 101, 102, 103, 104, 105, 106, 107, 108, 109, 110, 111, 112, 113, 114, 115, 116, 117, 118, 119, 120, 121, 122]))) (.cons (.ret (.andV (.app (pIn tab0) (.cons (.app (pIx) (.cons (.var 0) (.cons (.const (.int 0)) .nil))) (.cons (.var 1) .nil))) (.app (pEq tab0) (.cons (.comp [2] (.n 2) (.var 0) (.app (pNotIn tab0) (.cons (.var 2) (.cons (.app (pAdd tab0) (.cons (.var 1) (.cons (.const (.str [48, 49, 50, 51, 52, 53, 54, 55, 56, 57])) .nil))) .nil))) (.var 2)) (.cons (.app pLst .nil) .nil))))) (.nil)))
def F__law_is_name : Fn := fnSem 1 3 ir__law_is_name
def ir__law_is_pair : Sms := .cons (.ret (.andV (.app (pIsinst "tuple") (.cons (.var 0) .nil)) (.andV (.app (pEq tab0) (.cons (.app (pLen tab0) (.cons (.var 0) .nil)) (.cons (.const (.int 2)) .nil))) (.andV (.app (pIn tab0) (.cons (.app (pIx) (.cons (.var 0) (.cons (.const (.int 0)) .nil))) (.cons (.var 1) .nil))) (.app (pIn tab0) (.cons (.app (pIx) (.cons (.var 0) (.cons (.const (.int 1)) .nil))) (.cons (.var 1) .nil))))))) (.nil)
def F__law_is_pair : Fn := fnSem 2 2 ir__law_is_pair
end
end Pk

set_option Elab.async false
set_option linter.all false
set_option autoImplicit false
set_option maxRecDepth 100000
set_option maxHeartbeats 1000000
/-! LawE: what laws of errors share. -/
namespace Pk
theorem nameC_cons {c : Nat} {s : Cs} : nameC (c :: s) = (letter c && (c :: s).all (fun c => letter c || digit c) && decide (s.length < 8)) := rfl
theorem cmp_strs_nil {l : List Cs} : cmp (.lst (l.map .str)) (.lst []) = if (l.map D.str).all (pl 7) = true then some (decide (l = [])) else none := by
  rw [cmp_if (by rintro ⟨s, t, e, _⟩; cases e)]
  show (if ((l.map D.str).all (pl 7) && true) = true then some (eqDs (l.map D.str) []) else none) = _
  rw [Bool.and_true]
  cases l <;> rfl
theorem in_signs {c : Nat} {M : Mem} : pIn tab0 [.str [c], .str ([97, 98, 99, 100, 101, 102, 103, 104, 105, 106, 107, 108, 109, 110, 111, 112, 113, 114, 115, 116, 117, 118, 119, 120, 121, 122] ++ [48, 49, 50, 51, 52, 53, 54, 55, 56, 57])] M = .ok (.bl (letter c || digit c)) M := by
  rw [in_str1, ← letter_mem, ← digit_mem]
  congr 2
  rw [← Bool.decide_or]
  exact decide_eq_decide.mpr List.mem_append
theorem law_is_name_any {M : Mem} {x : D} (h : elK x = true) (hp : pl 8 x = true ∨ ∀ s, x ≠ .str s) : F__law_is_name [x] M = .ok (.bl (kName x)) M := by
  have key : wp (F__law_is_name [x] M) fun d M' => d = .bl (kName x) ∧ M' = M := by
    by_cases hs : ∃ s, x = .str s
    · obtain ⟨s, rfl⟩ := hs
      have hl : s.length ≤ 1000 := of_decide_eq_true h
      have hlm : s.length ≤ lim := by unfold lim; omega
      have ho : okC s = true := by
        rcases hp with hp | hp
        · rw [← pl_str (n := 8)]; exact hp
        · exact absurd rfl (hp s)
      have hk : kName (.str s) = nameC s := rfl
      rw [hk]
      unfold F__law_is_name ir__law_is_name
      refine fn_wp rfl ?_
      cases s with
      | nil => simp [start0, isB, lim, nameC]
      | cons c s =>
        have e1 : (1 : Int) ≤ (s.length : Int) + 1 := by omega
        have hl' : s.length + 1 ≤ lim := by simpa using hlm
        simp only [List.length_cons] at hl
        by_cases h8 : s.length < 8
        · have e8 : ((s.length : Int) + 1 ≤ 8) := by omega
          refine go_mid (fun Γ M' => M' = M ∧ Γ = [.val (.str (c :: s)), .no, .no]) (by simp [start0, isB, hl', e1, e8]; exact hold ⟨rfl, rfl⟩) ?_
          rintro Γ M' ⟨rfl, rfl⟩
          refine go_mid (fun Γ M => M = M' ∧ Γ = [.val (.str (c :: s)), .val (.str [97, 98, 99, 100, 101, 102, 103, 104, 105, 106, 107, 108, 109, 110, 111, 112, 113, 114, 115, 116, 117, 118, 119, 120, 121, 122]), .no]) (by simp; exact hold ⟨rfl, rfl⟩) ?_
          rintro Γ M ⟨rfl, rfl⟩
          have e2 : compS [2] (.n 2) (.app (pNotIn tab0) (.cons (.var 2) (.cons (.app (pAdd tab0) (.cons (.var 1) (.cons (.const (.str [48, 49, 50, 51, 52, 53, 54, 55, 56, 57])) .nil))) .nil))) (.var 2) (.str (c :: s)) [.val (.str (c :: s)), .val (.str [97, 98, 99, 100, 101, 102, 103, 104, 105, 106, 107, 108, 109, 110, 111, 112, 113, 114, 115, 116, 117, 118, 119, 120, 121, 122]), .no] M = .ok (.lst ((((c :: s).filter fun c => !(letter c || digit c)).map fun c => [c]).map .str)) M := by
            rw [List.map_map]
            refine compS_filter (g := fun c => D.str [c]) (fun c => !(letter c || digit c)) (fun c => D.str [c]) (items_str hlm) fun x _ => ?_
            have e3 := fun M => in_signs (c := x) (M := M)
            simp only [List.cons_append, List.nil_append] at e3
            simp [turn1, notIn_def, lim, e3]
            cases letter x <;> cases digit x <;> rfl
          have e4 : ((((c :: s).filter fun c => !(letter c || digit c)).map fun c => [c]).map D.str).all (pl 7) = true := by
            rw [List.all_eq_true]
            intro d hd
            obtain ⟨t, ht, rfl⟩ := List.mem_map.mp hd
            obtain ⟨a, ha, rfl⟩ := List.mem_map.mp ht
            rw [pl_str]
            unfold okC at ho ⊢
            rw [List.all_eq_true] at ho
            simpa using ho a (List.mem_filter.mp ha).1
          have e5 : ∀ M, pEq tab0 [.lst ((((c :: s).filter fun c => !(letter c || digit c)).map fun c => [c]).map .str), .lst []] M = .ok (.bl ((c :: s).all fun c => letter c || digit c)) M := fun M => by
            show optB (cmp _ _) M = _
            rw [cmp_strs_nil, if_pos e4]
            show Res.ok (D.bl _) M = _
            congr 2
            rw [Bool.eq_iff_iff, decide_eq_true_eq, List.map_eq_nil_iff, List.filter_eq_nil_iff, List.all_eq_true]
            have bb : ∀ u v : Bool, (u = false → v = true) ↔ (u = true ∨ v = true) := by decide
            simp [bb]
          generalize D.lst ((((c :: s).filter fun c => !(letter c || digit c)).map fun c => [c]).map .str) = dl at e2 e5
          have e6 := fun M => in_let (T := tab0) (M := M) (c := c)
          rw [nameC_cons]
          cases q : letter c with
          | false => rw [q] at e6; simp [hl', e6]
          | true =>
            rw [q] at e6
            simp [hl', e6, e2, e5, h8]
        · have e8 : ¬ ((s.length : Int) + 1 ≤ 8) := by omega
          rw [nameC_cons]
          simp [start0, isB, hl', e1, e8, h8]
    · obtain ⟨b, e1, e2⟩ := elK_isB (T := "str") h
      have e2 := e2 rfl
      have eb : b = false := by rw [e2]; cases x <;> first | rfl | exact absurd ⟨_, rfl⟩ hs
      subst eb
      have ek : kName x = false := by cases x <;> first | rfl | exact absurd ⟨_, rfl⟩ hs
      unfold F__law_is_name ir__law_is_name
      refine fn_wp rfl ?_
      simp [start0, e1, ek]
  obtain ⟨a, M', e, rfl, rfl⟩ := key.ex
  exact e
theorem law_is_pair_any {M : Mem} {ns : List Cs} {x : D} (hn : ∀ s ∈ ns, nameC s = true) (h : elT x = true) : F__law_is_pair [x, namesT ns] M = .ok (.bl (tieIn ns x)) M := is_tie_any hn h
end Pk

set_option Elab.async false
set_option linter.all false
set_option autoImplicit false
set_option maxRecDepth 100000
set_option maxHeartbeats 1000000
/-! LawIn: values of any kind looked for in a rule. -/
namespace Pk
def isIn (ns : List Cs) (ts : List (Cs × Cs)) (x : D) : Bool := match tieOf x with
  | some t => decide (t.1 ∈ ns) && decide (t.2 ∈ ns) && told ts t
  | none => false
theorem tieIn_cases {ns : List Cs} (x : D) : (tieIn ns x = false ∧ ∀ ts, isIn ns ts x = false) ∨ ∃ t, x = tieD t ∧ t.1 ∈ ns ∧ t.2 ∈ ns ∧ tieIn ns x = true ∧ ∀ ts, isIn ns ts x = told ts t := by
  cases q : tieOf x with
  | none => left; simp [tieIn, isIn, q]
  | some t =>
    have e := tieOf_some q
    by_cases h1 : t.1 ∈ ns
    · by_cases h2 : t.2 ∈ ns
      · right; exact ⟨t, e, h1, h2, by simp [tieIn, q, h1, h2], fun ts => by simp [isIn, q, h1, h2]⟩
      · left; simp [tieIn, isIn, q, h2]
    · left; simp [tieIn, isIn, q, h1]
theorem in_insA {T : Tab} {c : String} {ns : List String} {vs : List D} {M : Mem} {x : D} : pIn T [x, .ins c ns vs] M = dunder T "__contains__" [.ins c ns vs, x] M := by cases x <;> rfl
theorem in_any {M : Mem} {ns : List Cs} {ts : List (Cs × Cs)} {x : D} (k : Kinds ns) (h : Ties ns ts) (hx : elT x = true) : pIn tabR [x, ruleD ns ts] M = .ok (.bl (isIn ns ts x)) M := by
  have e1 : F_Rule___contains__ [ruleD ns ts, x] M = .ok (.bl (isIn ns ts x)) M := by
    have key : wp (F_Rule___contains__ [ruleD ns ts, x] M) fun d M' => d = .bl (isIn ns ts x) ∧ M' = M := by
      unfold F_Rule___contains__ ir_Rule___contains__
      refine fn_wp rfl ?_
      have et := fun M => is_tie_any (M := M) k.nm hx
      rcases tieIn_cases (ns := ns) x with ⟨e1, e2⟩ | ⟨t, rfl, h1, h2, e1, e2⟩
      · rw [e1] at et
        simp [start0, fld_sorts, fld_links, et, e2]
      · rw [e1] at et
        have ht : okT t := ⟨nameC_ok (k.nm _ h1), nameC_ok (k.nm _ h2)⟩
        simp [start0, fld_sorts, fld_links, et, is_told_eq ht (h.ok k.nm), e2]
    obtain ⟨a, M', e, rfl, rfl⟩ := key.ex
    exact e
  have et : tabR "Rule" "__contains__" = some (blF F_Rule___contains__) := by simp [tabR]
  unfold ruleD at e1 ⊢
  rw [in_insA, dun_eq et, blF_eq e1]
theorem notIn_any {M : Mem} {ns : List Cs} {ts : List (Cs × Cs)} {x : D} (k : Kinds ns) (h : Ties ns ts) (hx : elT x = true) : pNotIn tabR [x, ruleD ns ts] M = .ok (.bl (!isIn ns ts x)) M := by
  rw [notIn_def, in_any k h hx]; rfl
theorem repr_bls {M : Mem} {a b : Bool} : ∃ s, okC s = true ∧ pRepr [.lst [.bl a, .bl b]] M = .ok (.str s) M := by
  refine ⟨reprD (.lst [.bl a, .bl b]), by cases a <;> cases b <;> decide +kernel, ?_⟩
  have q := sm_seq (b := 0) (xs := [.bl a, .bl b]) (fun x hx => by
    rcases List.mem_cons.mp hx with rfl | hx
    · exact sm_bl
    · rcases List.mem_cons.mp hx with rfl | hx
      · exact sm_bl
      · cases hx)
  refine repr_ok (b := 2) ⟨by cases a <;> cases b <;> rfl, by cases a <;> cases b <;> rfl, by cases a <;> cases b <;> rfl, by cases a <;> cases b <;> decide +kernel⟩ (by cases a <;> cases b <;> rfl) (by decide)
end Pk

set_option Elab.async false
set_option linter.all false
set_option autoImplicit false
set_option maxRecDepth 100000
set_option maxHeartbeats 4000000
namespace Pk
noncomputable section
def ir__law_says : Sms := .cons (.ret (.app (pEq tab0) (.cons (.app (pRepr) (.cons (.app pLst (.cons (.app (pIn tabR) (.cons (.var 1) (.cons (.var 0) .nil))) (.cons (.app (pNotIn tabR) (.cons (.var 1) (.cons (.var 0) .nil))) .nil))) .nil)) (.cons (.app (pRepr) (.cons (.app pLst (.cons (.var 2) (.cons (.notV (.var 2)) .nil))) .nil)) .nil)))) (.nil)
def F__law_says : Fn := fnSem 3 3 ir__law_says
def ir__law_right : Sms := .cons (.par (atsOf [true, false] [1, 2]) (.cons (.app pLst .nil) (.cons (.app pLst (.cons (.const (.non)) (.cons (.const (.int 0)) (.cons (.const (.bl true)) (.cons (.const (.str [])) (.cons (.app pTup .nil) (.cons (.app pLst .nil) (.cons (.const (.dict [] [])) (.cons (.const (.str [97, 98])) (.cons (.app pTup (.cons (.const (.str [97])) .nil)) (.cons (.app pTup (.cons (.const (.str [97])) (.cons (.const (.int 1)) .nil))) (.cons (.app pTup (.cons (.app pLst .nil) (.cons (.const (.str [97])) .nil))) (.cons (.app pTup (.cons (.const (.str [97])) (.cons (.const (.dict [] [])) .nil))) (.cons (.app pTup (.cons (.app pTup (.cons (.const (.str [97])) (.cons (.const (.str [98])) .nil))) .nil)) .nil)))))))))))))) .nil))) (.cons (.for_ (.n 3) (.app pRange (.cons (.const (.int 2)) .nil)) (.cons (.asg (.n 4) (.app (pTuple) (.cons (.app F__law_names (.cons (.var 0) (.cons (.app (pAdd tab0) (.cons (.const (.int 1)) (.cons (.app F__law_draw (.cons (.var 0) (.cons (.const (.int 6)) .nil))) .nil))) .nil))) .nil))) (.cons (.asg (.n 5) (.app F__law_tied (.cons (.var 4) (.cons (.app F__law_links (.cons (.var 0) (.cons (.app (pLen tab0) (.cons (.var 4) .nil)) .nil))) .nil)))) (.cons (.meth 1 mAppend (.cons (.app pTup (.cons (.app (mkV "Rule" F_Rule___init__) (.cons (.var 4) (.cons (.var 5) .nil))) (.cons (.var 4) (.cons (.var 5) .nil)))) .nil)) (.cons (.par (atsOf [false, false] [6, 7]) (.cons (.app (pIx) (.cons (.var 4) (.cons (.app F__law_draw (.cons (.var 0) (.cons (.app (pLen tab0) (.cons (.var 4) .nil)) .nil))) .nil))) (.cons (.app (pIx) (.cons (.var 4) (.cons (.app F__law_draw (.cons (.var 0) (.cons (.app (pLen tab0) (.cons (.var 4) .nil)) .nil))) .nil))) .nil))) (.cons (.asg (.n 2) (.app (pAdd tab0) (.cons (.var 2) (.cons (.app pLst (.cons (.app pTup (.cons (.var 6) (.cons (.var 7) .nil))) (.cons (.app pTup (.cons (.var 7) (.cons (.var 6) .nil))) (.cons (.app pLst (.cons (.var 6) (.cons (.var 7) .nil))) (.cons (.app pTup (.cons (.var 6) (.cons (.var 7) (.cons (.var 6) .nil)))) (.cons (.var 6) (.cons (.app (pAdd tab0) (.cons (.var 6) (.cons (.var 7) .nil))) (.cons (.app pTup (.cons (.var 6) (.cons (.app (pAdd tab0) (.cons (.var 7) (.cons (.const (.str [113])) .nil))) .nil))) .nil)))))))) .nil)))) (.cons (.asg (.n 2) (.app (pAdd tab0) (.cons (.app (pAdd tab0) (.cons (.app (pAdd tab0) (.cons (.var 2) (.cons (.app (pList) (.cons (.var 5) .nil)) .nil))) (.cons (.comp [8] (.n 8) (.var 5) (.const (.bl true)) (.app pTup (.cons (.app (pIx) (.cons (.var 8) (.cons (.const (.int 1)) .nil))) (.cons (.app (pIx) (.cons (.var 8) (.cons (.const (.int 0)) .nil))) .nil)))) .nil))) (.cons (.app pLst (.cons (.app pTup (.cons (.var 6) (.cons (.const (.non)) .nil))) (.cons (.app pTup (.cons (.var 5) (.cons (.var 6) .nil))) .nil))) .nil)))) (.nil)))))))) (.cons (.for_ (.t [9, 4, 5]) (.app (pAdd tab0) (.cons (.var 1) (.cons (.var 1) .nil))) (.cons (.for_ (.n 10) (.var 2) (.cons (.ite (.notV (.app F__law_says (.cons (.var 9) (.cons (.var 10) (.cons (.andV (.app F__law_is_pair (.cons (.var 10) (.cons (.var 4) .nil))) (.app F__law_has (.cons (.var 5) (.cons (.var 10) .nil)))) .nil))))) (.cons (.ret (.const (.bl false))) (.nil)) (.nil)) (.nil))) (.cons (.for_ (.n 11) (.app (pSl false true) (.cons (.var 5) (.cons (.const (.int 2)) .nil))) (.cons (.ite (.orV (.notV (.app F__law_says (.cons (.app (pSub tabR) (.cons (.var 9) (.cons (.var 11) .nil))) (.cons (.app pTup (.cons (.app (pIx) (.cons (.var 11) (.cons (.const (.int 1)) .nil))) (.cons (.app (pIx) (.cons (.var 11) (.cons (.const (.int 0)) .nil))) .nil))) (.cons (.const (.bl false)) .nil))))) (.notV (.app F__law_says (.cons (.var 9) (.cons (.var 11) (.cons (.const (.bl true)) .nil)))))) (.cons (.ret (.const (.bl false))) (.nil)) (.nil)) (.nil))) (.nil)))) (.cons (.ret (.const (.bl true))) (.nil))))
def F__law_right : Fn := fnSem 1 12 ir__law_right
def ir_law : Sms := .cons (.for_ (.n 1) (.app pRange (.cons (.app (pMax2) (.cons (.const (.int 2)) (.cons (.app (pMin2) (.cons (.app (pLen tab0) (.cons (.var 0) .nil)) (.cons (.const (.int 4)) .nil))) .nil))) .nil)) (.cons (.ite (.notV (.app F__law_right (.cons (.app F__law_purse (.cons (.var 0) (.cons (.var 1) .nil))) .nil))) (.cons (.ret (.const (.bl false))) (.nil)) (.nil)) (.nil))) (.cons (.ret (.const (.bl true))) (.nil))
def F_law : Fn := fnSem 1 2 ir_law
end
end Pk

set_option Elab.async false
set_option linter.all false
set_option autoImplicit false
set_option maxRecDepth 100000
set_option maxHeartbeats 1000000
/-! K06_law: the law holds. -/
namespace Pk
theorem says_eq {M : Mem} {ns : List Cs} {ts : List (Cs × Cs)} {x : D} (k : Kinds ns) (h : Ties ns ts) (hx : elT x = true) : F__law_says [ruleD ns ts, x, .bl (isIn ns ts x)] M = .ok (.bl true) M := by
  have key : wp (F__law_says [ruleD ns ts, x, .bl (isIn ns ts x)] M) fun d M' => d = .bl true ∧ M' = M := by
    unfold F__law_says ir__law_says
    refine fn_wp rfl ?_
    have e1 := fun M => in_any (M := M) k h hx
    have e2 := fun M => notIn_any (M := M) k h hx
    generalize isIn ns ts x = b at e1 e2 ⊢
    obtain ⟨s, hs, e3⟩ := repr_bls (M := M) (a := b) (b := !b)
    have e4 : pEq tab0 [.str s, .str s] M = .ok (.bl true) M := by
      have e : pEq tab0 [.str s, .str s] M = optB (cmp (.str s) (.str s)) M := by rfl
      rw [e, cmp_str hs hs]; simp [optB]
    cases b <;> simp [start0, e1, e2, e4] <;> simp at e3 <;> simp [e3, e4]
  obtain ⟨a, M', e, rfl, rfl⟩ := key.ex
  exact e
/-- a case -/
def caseD (c : List Cs × List (Cs × Cs)) : D := .tup [ruleD c.1 c.2, namesT c.1, tiesT c.2]
def thingsD : List D := [.non, .int 0, .bl true, .str [], .tup [], .lst [], .dict [] [], .str [97, 98], .tup [.str [97]], .tup [.str [97], .int 1], .tup [.lst [], .str [97]], .tup [.str [97], .dict [] []], .tup [.tup [.str [97], .str [98]]]]
theorem thingsD_ok : ∀ x ∈ thingsD, elT x = true := List.all_eq_true.mp (show thingsD.all elT = true by rfl)
def moreD (a b : Cs) : List D := [.tup [.str a, .str b], .tup [.str b, .str a], .lst [.str a, .str b], .tup [.str a, .str b, .str a], .str a, .str (a ++ b), .tup [.str a, .str (b ++ [113])]]
def lastD (ts : List (Cs × Cs)) (a : Cs) : List D := [.tup [.str a, .non], .tup [tiesT ts, .str a]]
theorem elT_tie {t : Cs × Cs} (h : okT t) : elT (tieD t) = true := by
  show (inOk (.str t.1) && inOk (.str t.2)) = true
  rw [inOk_pl (by rw [pl_str]; exact h.1), inOk_pl (by rw [pl_str]; exact h.2)]; rfl
theorem moreD_ok {a b : Cs} (ha : nameC a = true) (hb : nameC b = true) : ∀ x ∈ moreD a b, elT x = true := by
  have la := nameC_len ha
  have lb := nameC_len hb
  have oa := nameC_ok ha
  have ob := nameC_ok hb
  have ob2 : okC (b ++ [113]) = true := by
    unfold okC at ob ⊢
    rw [List.all_append, ob]; rfl
  intro x hx
  simp only [moreD, List.mem_cons, List.not_mem_nil, or_false] at hx
  rcases hx with rfl | rfl | rfl | rfl | rfl | rfl | rfl
  · exact elT_tie (t := (a, b)) ⟨oa, ob⟩
  · exact elT_tie (t := (b, a)) ⟨ob, oa⟩
  · rfl
  · rfl
  · exact decide_eq_true (by omega)
  · exact decide_eq_true (by rw [List.length_append]; omega)
  · exact elT_tie (t := (a, b ++ [113])) ⟨oa, ob2⟩
theorem lastD_ok {ns : List Cs} {ts : List (Cs × Cs)} {a : Cs} (k : Kinds ns) (h : Ties ns ts) (ha : nameC a = true) : ∀ x ∈ lastD ts a, elT x = true := by
  intro x hx
  simp only [lastD, List.mem_cons, List.not_mem_nil, or_false] at hx
  rcases hx with rfl | rfl
  · show (inOk (.str a) && inOk .non) = true
    rw [inOk_pl (by rw [pl_str]; exact nameC_ok ha)]; rfl
  · show (inOk (tiesT ts) && inOk (.str a)) = true
    rw [inOk_pl (x := .str a) (by rw [pl_str]; exact nameC_ok ha), inOk_pl (x := tiesT ts)]
    · rfl
    · show (ts.map tieD).all (pl 7) = true
      rw [List.all_eq_true]
      intro d hd
      obtain ⟨t, ht, rfl⟩ := List.mem_map.mp hd
      exact pl7_tie ⟨nameC_ok (k.nm _ (h.mem t ht).1), nameC_ok (k.nm _ (h.mem t ht).2)⟩
def ysD (ts : List (Cs × Cs)) (a b : Cs) : List D := moreD a b ++ ts.map tieD ++ (ts.map swp).map tieD ++ lastD ts a
theorem ysD_len {ts : List (Cs × Cs)} {a b : Cs} (h : ts.length ≤ 21) : (ysD ts a b).length ≤ 51 := by simp [ysD, moreD, lastD]; omega
theorem ysD_ok {ns : List Cs} {ts : List (Cs × Cs)} {a b : Cs} (k : Kinds ns) (h : Ties ns ts) (ha : nameC a = true) (hb : nameC b = true) : ∀ x ∈ ysD ts a b, elT x = true := by
  intro x hx
  have ho := h.ok k.nm
  unfold ysD at hx
  rcases List.mem_append.mp hx with hx | hx
  · rcases List.mem_append.mp hx with hx | hx
    · rcases List.mem_append.mp hx with hx | hx
      · exact moreD_ok ha hb x hx
      · obtain ⟨t, ht, rfl⟩ := List.mem_map.mp hx
        exact elT_tie (ho t ht)
    · obtain ⟨t, ht, rfl⟩ := List.mem_map.mp hx
      obtain ⟨u, hu, rfl⟩ := List.mem_map.mp ht
      exact elT_tie ⟨(ho u hu).2, (ho u hu).1⟩
  · exact lastD_ok k h ha x hx
theorem cut_to {α : Type} {xs : List α} {j : Nat} : cut xs none (some (j : Int)) = xs.take j := by
  by_cases h : j ≤ xs.length
  · exact cut_take h
  · have e : sIx xs.length xs.length (some (j : Int)) = xs.length := by
      unfold sIx
      simp only
      rw [if_neg (by omega)]
      omega
    unfold cut
    rw [e]
    have e0 : sIx xs.length 0 none = 0 := rfl
    rw [e0, List.drop_zero, Nat.sub_zero, List.take_of_length_le (Nat.le_refl _), List.take_of_length_le (by omega)]
theorem lst_list {xs : List D} {M : Mem} : pList [.lst xs] M = .ok (.lst xs) M := rfl
theorem right_wp {M : Mem} {n k : Nat} {Q : D → Mem → Prop} (hM : Pu n k M) (hn : n < 800000) (h : ∀ M', Pu (n + 1000) k M' → Q (.bl true) M') : wp (F__law_right [.ref k] M) Q := by
  unfold F__law_right ir__law_right
  refine fn_wp rfl ?_
  refine go_mid (fun Γ M' => M' = M ∧ Γ = [.val (.ref k), .own (.lst (([] : List (List Cs × List (Cs × Cs))).map caseD)), .val (.lst thingsD), .no, .no, .no, .no, .no, .no, .no, .no, .no]) (by simp [start0]; exact hold ⟨rfl, rfl⟩) ?_
  rintro Γ M' ⟨rfl, rfl⟩
  refine go_for (isV (fun d => d = .lst ((List.range 2).map fun j : Nat => .int (j : Int))) M') (by simp [rangeL_map, lim]; exact hold ⟨rfl, rfl⟩) ?_
  rintro d M ⟨rfl, rfl⟩
  simp only [forS, items_lst]
  refine for_map (fun j Γ M => Pu (n + 450 * j) k M ∧ ∃ (l : List (List Cs × List (Cs × Cs))) (xs : List D) (s3 s4 s5 s6 s7 s8 s9 s10 s11 : Slot), l.length = j ∧ xs.length ≤ 100 + 100 * j ∧ (∀ c ∈ l, Kinds c.1 ∧ Ties c.1 c.2) ∧ (∀ x ∈ xs, elT x = true) ∧ Γ = [.val (.ref k), .own (.lst (l.map caseD)), .val (.lst xs), s3, s4, s5, s6, s7, s8, s9, s10, s11]) (List.range 2) _ _ ⟨hM, [], thingsD, .no, .no, .no, .no, .no, .no, .no, .no, .no, rfl, by decide, (fun _ h => nomatch h), thingsD_ok, rfl⟩ ?_ ?_
  · rintro j x Γ M hx ⟨hP, l, xs, s3, s4, s5, s6, s7, s8, s9, s10, s11, hl, hxl, hc, hxs, rfl⟩
    have hj : j < 2 := by
      have := (List.getElem?_eq_some_iff.mp hx).1
      simpa using this
    simp only [turn, asgTg_n, setNS, setN0]
    refine go_mid (fun Γ M => Pu (n + 450 * j + 102) k M ∧ ∃ (ns : List Cs), Kinds ns ∧ Γ = [.val (.ref k), .own (.lst (l.map caseD)), .val (.lst xs), .val (.int x), .val (namesT ns), s5, s6, s7, s8, s9, s10, s11]) ?_ ?_
    · simp
      refine draw_wp hP (by omega) (by omega) (by omega) fun r2 M2 hr2 hP2 => ?_
      simp
      have e : (1 : Int) + (r2 : Int) = ((1 + r2 : Nat) : Int) := by omega
      rw [e]
      refine names_wp hP2 (by omega) (by omega) fun ns M3 hlen hnd hnm hP3 => ?_
      simp
      exact hold ⟨hP3.mono (by omega), ns, ⟨hnd, hnm, by omega, by omega⟩, rfl⟩
    clear hP M
    rintro Γ M ⟨hP, ns, k1, rfl⟩
    have el : ∀ M : Mem, pLen tab0 [namesT ns] M = .ok (.int ns.length) M := fun M => by unfold namesT; simp
    have hle := k1.le
    have hpos := k1.pos
    refine go_mid (fun Γ M => Pu (n + 450 * j + 402) k M ∧ ∃ (ts : List (Cs × Cs)), Ties ns ts ∧ Γ = [.val (.ref k), .own (.lst (l.map caseD)), .val (.lst xs), .val (.int x), .val (namesT ns), .val (tiesT ts), s6, s7, s8, s9, s10, s11]) ?_ ?_
    · simp [el]
      refine links_wp hP (by omega) (by omega) fun ls M1 hb hd hP1 => ?_
      simp [tied_eq hb]
      exact hold ⟨hP1, _, ties_of k1.nd hb hd, rfl⟩
    clear hP M
    rintro Γ M ⟨hP, ts, t1, rfl⟩
    have hlim : l.length < lim := by unfold lim; omega
    have hnew := rule_new (M := M) k1 t1 hP.pm.free
    refine go_mid (fun Γ M' => M' = M ∧ Γ = [.val (.ref k), .own (.lst ((l ++ [(ns, ts)]).map caseD)), .val (.lst xs), .val (.int x), .val (namesT ns), .val (tiesT ts), s6, s7, s8, s9, s10, s11]) ?_ ?_
    · simp [hnew, hlim]
      exact hold ⟨rfl, by rw [List.map_append]; rfl⟩
    rintro Γ M' ⟨rfl, rfl⟩
    obtain ⟨l2, hl2⟩ : ∃ l2, l2 = l ++ [(ns, ts)] := ⟨_, rfl⟩
    rw [← hl2]
    refine go_mid (fun Γ M => Pu (n + 450 * j + 404) k M ∧ ∃ a b : Cs, nameC a = true ∧ nameC b = true ∧ Γ = [.val (.ref k), .own (.lst (l2.map caseD)), .val (.lst xs), .val (.int x), .val (namesT ns), .val (tiesT ts), .val (.str a), .val (.str b), s8, s9, s10, s11]) ?_ ?_
    · simp [el]
      refine draw_wp hP (by omega) (by omega) (by omega) fun r1 M1 hr1 hP1 => ?_
      simp [ix_name (M := M1) (show r1 < ns.length by omega), el]
      refine draw_wp hP1 (by omega) (by omega) (by omega) fun r2 M2 hr2 hP2 => ?_
      simp [ix_name (M := M2) (show r2 < ns.length by omega)]
      exact hold ⟨hP2.mono (by omega), _, _, k1.nm _ (getD_mem (show r1 < ns.length by omega)), k1.nm _ (getD_mem (show r2 < ns.length by omega)), rfl⟩
    clear hP M' hnew
    rintro Γ M ⟨hP, a, b, ha, hb, rfl⟩
    have la := nameC_len ha
    have lb := nameC_len hb
    have tl := ties_len k1 t1
    refine go_mid (fun Γ M' => M' = M ∧ Γ = [.val (.ref k), .own (.lst (l2.map caseD)), .val (.lst (xs ++ moreD a b)), .val (.int x), .val (namesT ns), .val (tiesT ts), .val (.str a), .val (.str b), s8, s9, s10, s11]) ?_ ?_
    · have q1 : a.length + b.length ≤ lim := by unfold lim; omega
      have q2 : b.length + 1 ≤ lim := by unfold lim; omega
      have q3 : xs.length + 7 ≤ lim := by unfold lim; omega
      simp [q1, q2, q3]
      exact hold ⟨rfl, rfl⟩
    rintro Γ M' ⟨rfl, rfl⟩
    have e1 : pList [tiesT ts] M' = .ok (.lst (ts.map tieD)) M' := by unfold tiesT; simp
    have e2 : compS [8] (.n 8) (.const (.bl true)) (.app pTup (.cons (.app (pIx) (.cons (.var 8) (.cons (.const (.int 1)) .nil))) (.cons (.app (pIx) (.cons (.var 8) (.cons (.const (.int 0)) .nil))) .nil))) (tiesT ts) [.val (.ref k), .own (.lst (l2.map caseD)), .val (.lst (xs ++ moreD a b)), .val (.int x), .val (namesT ns), .val (tiesT ts), .val (.str a), .val (.str b), s8, s9, s10, s11] M' = .ok (.lst ((ts.map swp).map tieD)) M' := by
      rw [List.map_map]
      refine compS_map (g := tieD) (tieD ∘ swp) rfl fun t _ => ?_
      simp [turn1, tieD, swp]
    refine go_mid (fun Γ M => M = M' ∧ Γ = [.val (.ref k), .own (.lst (l2.map caseD)), .val (.lst (xs ++ ysD ts a b)), .val (.int x), .val (namesT ns), .val (tiesT ts), .val (.str a), .val (.str b), s8, s9, s10, s11]) ?_ ?_
    · have q1 : (xs ++ moreD a b).length + (ts.map tieD).length ≤ lim := by simp [moreD, lim]; omega
      have q2 : (xs ++ moreD a b ++ ts.map tieD).length + ((ts.map swp).map tieD).length ≤ lim := by simp [moreD, lim]; omega
      have q3 : (xs ++ moreD a b ++ ts.map tieD ++ (ts.map swp).map tieD).length + (lastD ts a).length ≤ lim := by simp [moreD, lastD, lim]; omega
      have a1 : pAdd tab0 [.lst (xs ++ moreD a b), .lst (ts.map tieD)] M' = .ok (.lst (xs ++ moreD a b ++ ts.map tieD)) M' := by rw [add_lst, if_pos q1]
      have a2 : pAdd tab0 [.lst (xs ++ moreD a b ++ ts.map tieD), .lst ((ts.map swp).map tieD)] M' = .ok (.lst (xs ++ moreD a b ++ ts.map tieD ++ (ts.map swp).map tieD)) M' := by rw [add_lst, if_pos q2]
      have a3 : pAdd tab0 [.lst (xs ++ moreD a b ++ ts.map tieD ++ (ts.map swp).map tieD), .lst [.tup [.str a, .non], .tup [tiesT ts, .str a]]] M' = .ok (.lst (xs ++ ysD ts a b)) M' := by
        rw [add_lst]
        refine (if_pos q3).trans ?_
        unfold ysD
        simp only [List.append_assoc]; rfl
      generalize D.lst (xs ++ ysD ts a b) = d5 at a3 ⊢
      generalize D.lst (xs ++ moreD a b ++ ts.map tieD ++ (ts.map swp).map tieD) = d4 at a2 a3
      generalize D.lst (xs ++ moreD a b ++ ts.map tieD) = d3 at a1 a2
      generalize D.lst ((ts.map swp).map tieD) = d2 at a2 e2
      generalize D.lst (ts.map tieD) = d1 at a1 e1
      generalize D.lst (xs ++ moreD a b) = d0 at a1 e2 ⊢
      simp [e1, e2, a1, a2, a3]
      exact hold ⟨rfl, rfl⟩
    rintro Γ M ⟨rfl, rfl⟩
    simp
    refine hold ⟨hP.mono (by omega), l2, xs ++ ysD ts a b, _, _, _, _, _, _, _, _, _, by rw [hl2]; simp [hl], ?_, fun c hc' => ?_, fun y hy => ?_, rfl⟩
    · have := ysD_len (a := a) (b := b) tl
      rw [List.length_append]; omega
    · rw [hl2] at hc'
      rcases List.mem_append.mp hc' with hc' | hc'
      · exact hc c hc'
      · rw [List.mem_singleton.mp hc']; exact ⟨k1, t1⟩
    · rcases List.mem_append.mp hy with hy | hy
      · exact hxs y hy
      · exact ysD_ok k1 t1 ha hb y hy
  · rintro Γ M ⟨hP, l, xs, s3, s4, s5, s6, s7, s8, s9, s10, s11, hl, hxl, hc, hxs, rfl⟩
    refine go_for (fun d M' => M' = M ∧ d = .lst ((l ++ l).map caseD)) ?_ ?_
    · have q1 : (l.map caseD).length + (l.map caseD).length ≤ lim := by simp at hl ⊢; simp [lim, hl]
      simp only [List.length_range] at hl
      simp [lim, hl]
      exact hold ⟨rfl, congrArg D.lst List.map_append.symm⟩
    rintro d M' ⟨rfl, rfl⟩
    simp only [forS, items_lst]
    refine for_map (fun j Γ M => M = M' ∧ ∃ s3 s4 s5 s8 s9 s10 s11, Γ = [.val (.ref k), .own (.lst (l.map caseD)), .val (.lst xs), s3, s4, s5, s6, s7, s8, s9, s10, s11]) (l ++ l) _ _ ⟨rfl, _, _, _, _, _, _, _, rfl⟩ ?_ ?_
    · rintro j c Γ M hj ⟨rfl, s3, s4, s5, s8, s9, s10, s11, rfl⟩
      obtain ⟨k1, t1⟩ := hc c (by
        rcases List.mem_append.mp (List.mem_of_getElem? hj) with q | q <;> exact q)
      obtain ⟨ns, ts⟩ := c
      have e0 : ∀ b : Sms, turn (.t [9, 4, 5]) b (caseD (ns, ts)) [.val (.ref k), .own (.lst (l.map caseD)), .val (.lst xs), s3, s4, s5, s6, s7, s8, s9, s10, s11] M = evSs b [.val (.ref k), .own (.lst (l.map caseD)), .val (.lst xs), s3, .val (namesT ns), .val (tiesT ts), s6, s7, s8, .val (ruleD ns ts), s10, s11] M := fun _ => rfl
      rw [e0]
      have hfree : M.all (freeC M.length) = true := hP.pm.free
      have hok := t1.ok k1.nm
      refine go_mid (fun Γ M' => M' = M ∧ ∃ s10, Γ = [.val (.ref k), .own (.lst (l.map caseD)), .val (.lst xs), s3, .val (namesT ns), .val (tiesT ts), s6, s7, s8, .val (ruleD ns ts), s10, s11]) ?_ ?_
      · simp only [evS_for, ev_vvar, ev_var, wpS_vS, vAt_def, vvAt_def, slotS, slot0, get_val, wp_ok, forS, items_lst]
        refine for_inv (fun j Γ M' => M' = M ∧ ∃ s10, Γ = [.val (.ref k), .own (.lst (l.map caseD)), .val (.lst xs), s3, .val (namesT ns), .val (tiesT ts), s6, s7, s8, .val (ruleD ns ts), s10, s11]) xs 0 _ _ ⟨rfl, _, rfl⟩ ?_ ?_
        · rintro j x Γ M' hx ⟨rfl, s10, rfl⟩
          have hxe := hxs x (List.mem_of_getElem? hx)
          have e1 := fun M => law_is_pair_any (M := M) k1.nm hxe
          have e2 := fun M => says_eq (M := M) k1 t1 hxe
          rcases tieIn_cases (ns := ns) x with ⟨q1, q2⟩ | ⟨t, rfl, h1, h2, q1, q2⟩
          · rw [q1] at e1
            rw [q2] at e2
            simp [turn, e1, e2]
            exact hold ⟨rfl, _, rfl⟩
          · rw [q1] at e1
            rw [q2] at e2
            have ht : okT t := ⟨nameC_ok (k1.nm _ h1), nameC_ok (k1.nm _ h2)⟩
            have e3 := fun M => has_eq (M := M) ht hok
            simp [turn, e1, e2, e3]
            exact hold ⟨rfl, _, rfl⟩
        · rintro Γ M' ⟨rfl, s10, rfl⟩
          exact hold ⟨rfl, _, rfl⟩
      rintro Γ M' ⟨rfl, s10, rfl⟩
      refine go_for (fun d M => M = M' ∧ d = tiesT (ts.take 2)) ?_ ?_
      · have e7 : cutD (tiesT ts) none (some 2) = some (tiesT (ts.take 2)) := by
          unfold tiesT
          rw [cutD_tup, List.map_take]
          exact congrArg (fun x => some (D.tup x)) (cut_to (xs := ts.map tieD) (j := 2))
        simp [e7]
        exact hold ⟨rfl, rfl⟩
      rintro d M ⟨rfl, rfl⟩
      have ei : items (tiesT (ts.take 2)) = some ((ts.take 2).map tieD) := rfl
      simp only [forS, ei]
      refine for_map (fun j Γ M' => M' = M ∧ ∃ s11, Γ = [.val (.ref k), .own (.lst (l.map caseD)), .val (.lst xs), s3, .val (namesT ns), .val (tiesT ts), s6, s7, s8, .val (ruleD ns ts), s10, s11]) (ts.take 2) _ _ ⟨rfl, _, rfl⟩ ?_ ?_
      · rintro j t Γ M' hj ⟨rfl, s11, rfl⟩
        have hm : t ∈ ts := List.mem_of_mem_take (List.mem_of_getElem? hj)
        have hmm := t1.mem t hm
        have ht := hok t hm
        have tt : told ts t = true := by unfold told; rw [decide_eq_true hm]; rfl
        have e1 := sub_rule k1 t1 hmm tt hfree
        have t2 : Ties ns (lessL ts t) := t1.filter
        have e2 := fun M => says_eq (M := M) (x := tieD (swp t)) k1 t2 (elT_tie ⟨ht.2, ht.1⟩)
        have e3 := fun M => says_eq (M := M) (x := tieD t) k1 t1 (elT_tie ht)
        have q2 : isIn ns (lessL ts t) (tieD (swp t)) = false := by
          show (decide (t.2 ∈ ns) && decide (t.1 ∈ ns) && told (lessL ts t) (swp t)) = false
          have : told (lessL ts t) (swp t) = false := by
            unfold told lessL swp
            simp
          rw [this, Bool.and_false]
        have q3 : isIn ns ts (tieD t) = true := by
          show (decide (t.1 ∈ ns) && decide (t.2 ∈ ns) && told ts t) = true
          rw [tt, decide_eq_true hmm.1, decide_eq_true hmm.2]; rfl
        rw [q2] at e2
        rw [q3] at e3
        have i0 : ∀ M, pIx [tieD t, .int 0] M = .ok (.str t.1) M := fun M => by simp [tieD]
        have i1 : ∀ M, pIx [tieD t, .int 1] M = .ok (.str t.2) M := fun M => by simp [tieD]
        have e2 : ∀ M, F__law_says [ruleD ns (lessL ts t), .tup [.str t.2, .str t.1], .bl false] M = .ok (.bl true) M := e2
        simp [turn, e1, i0, i1, e2, e3]
        exact hold ⟨rfl, _, rfl⟩
      · rintro Γ M ⟨rfl, s11, rfl⟩
        exact hold ⟨rfl, _, _, _, _, _, _, _, rfl⟩
    · rintro Γ M ⟨rfl, s3, s4, s5, s8, s9, s10, s11, rfl⟩
      simp
      exact h _ (hP.mono (by simp))
theorem law_true : ∀ ns : List Int, ns.length ≤ 63 → (∀ z ∈ ns, PySem.Builtin.Int.intBits z ≤ 1048576) → ∃ M', F_law [.scr (ns.map .int)] [] = .ok (.bl true) M' := by
  intro ns hl _
  have key : wp (F_law [.scr (ns.map .int)] []) fun d M' => d = .bl true := by
    unfold F_law ir_law
    refine fn_wp rfl ?_
    refine go_for (isV (fun d => ∃ q : Nat, q ≤ 4 ∧ d = .lst ((List.range q).map fun j : Nat => .int (j : Int))) []) ?_ ?_
    · have e : (max (2 : Int) (min (ns.length : Int) 4)) = ((max 2 (min ns.length 4) : Nat) : Int) := by omega
      have e2 : max 2 (min ns.length 4) ≤ lim := by unfold lim; omega
      simp [start0, e, e2, rangeL_map]
      exact hold ⟨rfl, max 2 (min ns.length 4), by omega, rfl⟩
    rintro d M ⟨rfl, q, hq, rfl⟩
    simp only [forS, items_lst, start0]
    refine for_map (fun j Γ M => PM (1000 * j) M ∧ ∃ s1, Γ = [.val (.scr (ns.map .int)), s1]) (List.range q) _ _ ⟨(fun _ h => nomatch h), _, rfl⟩ ?_ ?_
    · rintro j x Γ M hx ⟨hP, s1, rfl⟩
      have hj : j < q := by
        have := (List.getElem?_eq_some_iff.mp hx).1
        simpa using this
      simp [turn]
      refine purse_wp hP hl fun M1 hP1 hl1 => ?_
      simp
      refine right_wp hP1 (by omega) fun M2 hP2 => ?_
      simp
      exact hold ⟨hP2.pm.mono (by omega), _, rfl⟩
    · rintro Γ M ⟨hP, s1, rfl⟩
      simp
  obtain ⟨a, M', e, rfl⟩ := key.ex
  exact ⟨M', e⟩
end Pk

set_option Elab.async false
set_option linter.all false
set_option autoImplicit false
set_option maxRecDepth 100000
set_option maxHeartbeats 4000000
namespace Pk
open PySem PySem.Spec PyProof.Rows L2
def top (i : Nat) : Stmt := PySem.Challenge.pw_pairkinds_k06_ties_in_rules.main.body.getD i (.Pass ⟨0, 0, 0, 0⟩)
def st__law_purse : Stmt := top 32
def st_is_name : Stmt := top 19
def st_wrong_kind : Stmt := top 21
def st_check_new_kinds : Stmt := top 26
def st_is_tie : Stmt := top 22
def st_is_told : Stmt := top 23
def st_wrong_tie : Stmt := top 24
def st_check_ties : Stmt := top 27
def st_lump_around : Stmt := top 12
def st_near_outside : Stmt := top 11
def st_cut_of : Stmt := top 13
def st_subsets : Stmt := top 10
def st_cuts_of : Stmt := top 14
def st_place_of : Stmt := top 25
def st_Rule___init__ : Stmt := inClass (top 30) 0
def st_Rule___sub__ : Stmt := inClass (top 30) 7
def st__law_draw : Stmt := top 33
def st__law_has : Stmt := top 38
def st__law_is_pair : Stmt := top 37
def st__law_links : Stmt := top 35
def st__law_names : Stmt := top 34
def st_Rule___contains__ : Stmt := inClass (top 30) 8
def st_Rule___add__ : Stmt := inClass (top 30) 6
def st_Rule___len__ : Stmt := inClass (top 30) 10
def st_Rule___bool__ : Stmt := inClass (top 30) 11
def st_Rule___eq__ : Stmt := inClass (top 30) 12
def st_Rule___str__ : Stmt := inClass (top 30) 13
def st__law_says : Stmt := top 39
def st__law_tied : Stmt := top 36
def st__law_right : Stmt := top 40
def st_law : Stmt := top 41
def st_InvalidKinds___init__ : Stmt := inClass (top 3) 0
def st_InvalidTies___init__ : Stmt := inClass (top 4) 0
structure Tx (K : PySem.W.Frag) (mg : Str → Option Value) where
  ca : String → Addr
  m_Rule : mg "Rule" = some (.ref (ca "Rule"))
  cl_Rule : Cls K (ca "Rule")
  m_InvalidKinds : mg "InvalidKinds" = some (.ref (ca "InvalidKinds"))
  m_InvalidTies : mg "InvalidTies" = some (.ref (ca "InvalidTies"))
  m_WrongValue : mg "WrongValue" = some (.ref (ca "WrongValue"))
  oe_InvalidKinds : OexC K (ca "InvalidKinds")
  no_InvalidKinds_index : PySem.W.findIn K (.ref (ca "InvalidKinds")) (Str.ofString "index") = some none
  a_InvalidKinds___init__ : Addr
  fd_InvalidKinds___init__ : FuncData
  F_InvalidKinds___init__ : L2.Fun K "__init__" "InvalidKinds.__init__" st_InvalidKinds___init__ a_InvalidKinds___init__ fd_InvalidKinds___init__
  fi_InvalidKinds___init__ : PySem.W.findIn K (.ref (ca "InvalidKinds")) "__init__" = some (some (.ref a_InvalidKinds___init__))
  ti_InvalidKinds___init__ : PySem.W.typeIn K (.ref a_InvalidKinds___init__) = some (.type "function")
  b_InvalidKinds___init__ : Binds K fd_InvalidKinds___init__ ["self", "index"] []
  oe_InvalidTies : OexC K (ca "InvalidTies")
  no_InvalidTies_index : PySem.W.findIn K (.ref (ca "InvalidTies")) (Str.ofString "index") = some none
  a_InvalidTies___init__ : Addr
  fd_InvalidTies___init__ : FuncData
  F_InvalidTies___init__ : L2.Fun K "__init__" "InvalidTies.__init__" st_InvalidTies___init__ a_InvalidTies___init__ fd_InvalidTies___init__
  fi_InvalidTies___init__ : PySem.W.findIn K (.ref (ca "InvalidTies")) "__init__" = some (some (.ref a_InvalidTies___init__))
  ti_InvalidTies___init__ : PySem.W.typeIn K (.ref a_InvalidTies___init__) = some (.type "function")
  b_InvalidTies___init__ : Binds K fd_InvalidTies___init__ ["self", "index"] []
  a__law_purse : Addr
  fd__law_purse : FuncData
  k__law_purse : PySem.W.keepIn K (.ref a__law_purse) = true
  F__law_purse : L2.Fun K "_law_purse" "_law_purse" st__law_purse a__law_purse fd__law_purse
  m__law_purse : mg "_law_purse" = some (.ref a__law_purse)
  b__law_purse : Binds K fd__law_purse ["script", "at"] []
  a_is_name : Addr
  fd_is_name : FuncData
  k_is_name : PySem.W.keepIn K (.ref a_is_name) = true
  F_is_name : L2.Fun K "is_name" "is_name" st_is_name a_is_name fd_is_name
  m_is_name : mg "is_name" = some (.ref a_is_name)
  b_is_name : Binds K fd_is_name ["value"] []
  a_wrong_kind : Addr
  fd_wrong_kind : FuncData
  k_wrong_kind : PySem.W.keepIn K (.ref a_wrong_kind) = true
  F_wrong_kind : L2.Fun K "wrong_kind" "wrong_kind" st_wrong_kind a_wrong_kind fd_wrong_kind
  m_wrong_kind : mg "wrong_kind" = some (.ref a_wrong_kind)
  b_wrong_kind : Binds K fd_wrong_kind ["kinds"] []
  a_check_new_kinds : Addr
  fd_check_new_kinds : FuncData
  k_check_new_kinds : PySem.W.keepIn K (.ref a_check_new_kinds) = true
  F_check_new_kinds : L2.Fun K "check_new_kinds" "check_new_kinds" st_check_new_kinds a_check_new_kinds fd_check_new_kinds
  m_check_new_kinds : mg "check_new_kinds" = some (.ref a_check_new_kinds)
  b_check_new_kinds : Binds K fd_check_new_kinds ["kinds"] []
  a_is_tie : Addr
  fd_is_tie : FuncData
  k_is_tie : PySem.W.keepIn K (.ref a_is_tie) = true
  F_is_tie : L2.Fun K "is_tie" "is_tie" st_is_tie a_is_tie fd_is_tie
  m_is_tie : mg "is_tie" = some (.ref a_is_tie)
  b_is_tie : Binds K fd_is_tie ["value", "kinds"] []
  a_is_told : Addr
  fd_is_told : FuncData
  k_is_told : PySem.W.keepIn K (.ref a_is_told) = true
  F_is_told : L2.Fun K "is_told" "is_told" st_is_told a_is_told fd_is_told
  m_is_told : mg "is_told" = some (.ref a_is_told)
  b_is_told : Binds K fd_is_told ["ties", "tie"] []
  a_wrong_tie : Addr
  fd_wrong_tie : FuncData
  k_wrong_tie : PySem.W.keepIn K (.ref a_wrong_tie) = true
  F_wrong_tie : L2.Fun K "wrong_tie" "wrong_tie" st_wrong_tie a_wrong_tie fd_wrong_tie
  m_wrong_tie : mg "wrong_tie" = some (.ref a_wrong_tie)
  b_wrong_tie : Binds K fd_wrong_tie ["ties", "kinds"] []
  a_check_ties : Addr
  fd_check_ties : FuncData
  k_check_ties : PySem.W.keepIn K (.ref a_check_ties) = true
  F_check_ties : L2.Fun K "check_ties" "check_ties" st_check_ties a_check_ties fd_check_ties
  m_check_ties : mg "check_ties" = some (.ref a_check_ties)
  b_check_ties : Binds K fd_check_ties ["ties", "kinds"] []
  a_lump_around : Addr
  fd_lump_around : FuncData
  k_lump_around : PySem.W.keepIn K (.ref a_lump_around) = true
  F_lump_around : L2.Fun K "lump_around" "lump_around" st_lump_around a_lump_around fd_lump_around
  m_lump_around : mg "lump_around" = some (.ref a_lump_around)
  b_lump_around : Binds K fd_lump_around ["near", "start"] []
  a_near_outside : Addr
  fd_near_outside : FuncData
  k_near_outside : PySem.W.keepIn K (.ref a_near_outside) = true
  F_near_outside : L2.Fun K "near_outside" "near_outside" st_near_outside a_near_outside fd_near_outside
  m_near_outside : mg "near_outside" = some (.ref a_near_outside)
  b_near_outside : Binds K fd_near_outside ["many", "ties", "chosen"] []
  a_cut_of : Addr
  fd_cut_of : FuncData
  k_cut_of : PySem.W.keepIn K (.ref a_cut_of) = true
  F_cut_of : L2.Fun K "cut_of" "cut_of" st_cut_of a_cut_of fd_cut_of
  m_cut_of : mg "cut_of" = some (.ref a_cut_of)
  b_cut_of : Binds K fd_cut_of ["many", "ties", "chosen"] []
  a_subsets : Addr
  fd_subsets : FuncData
  k_subsets : PySem.W.keepIn K (.ref a_subsets) = true
  F_subsets : L2.Fun K "subsets" "subsets" st_subsets a_subsets fd_subsets
  m_subsets : mg "subsets" = some (.ref a_subsets)
  b_subsets : Binds K fd_subsets ["many"] []
  a_cuts_of : Addr
  fd_cuts_of : FuncData
  k_cuts_of : PySem.W.keepIn K (.ref a_cuts_of) = true
  F_cuts_of : L2.Fun K "cuts_of" "cuts_of" st_cuts_of a_cuts_of fd_cuts_of
  m_cuts_of : mg "cuts_of" = some (.ref a_cuts_of)
  b_cuts_of : Binds K fd_cuts_of ["many", "ties"] []
  a_place_of : Addr
  fd_place_of : FuncData
  k_place_of : PySem.W.keepIn K (.ref a_place_of) = true
  F_place_of : L2.Fun K "place_of" "place_of" st_place_of a_place_of fd_place_of
  m_place_of : mg "place_of" = some (.ref a_place_of)
  b_place_of : Binds K fd_place_of ["kinds", "kind"] []
  a_Rule___init__ : Addr
  fd_Rule___init__ : FuncData
  k_Rule___init__ : PySem.W.keepIn K (.ref a_Rule___init__) = true
  dt_Rule___init__ : Addr
  F_Rule___init__ : FunD K "__init__" "Rule.__init__" st_Rule___init__ (.ref dt_Rule___init__) a_Rule___init__ fd_Rule___init__
  fi_Rule___init__ : PySem.W.findIn K (.ref (ca "Rule")) "__init__" = some (some (.ref a_Rule___init__))
  if_Rule___init__ : PySem.W.isFn K (.ref a_Rule___init__) = true
  mk_Rule : Mk K (ca "Rule") a_Rule___init__
  b_Rule___init__ : Binds K fd_Rule___init__ ["self", "kinds", "ties"] []
  a_Rule___sub__ : Addr
  fd_Rule___sub__ : FuncData
  k_Rule___sub__ : PySem.W.keepIn K (.ref a_Rule___sub__) = true
  F_Rule___sub__ : L2.Fun K "__sub__" "Rule.__sub__" st_Rule___sub__ a_Rule___sub__ fd_Rule___sub__
  fi_Rule___sub__ : PySem.W.findIn K (.ref (ca "Rule")) "__sub__" = some (some (.ref a_Rule___sub__))
  if_Rule___sub__ : PySem.W.isFn K (.ref a_Rule___sub__) = true
  b_Rule___sub__ : Binds K fd_Rule___sub__ ["self", "tie"] []
  a__law_draw : Addr
  fd__law_draw : FuncData
  k__law_draw : PySem.W.keepIn K (.ref a__law_draw) = true
  F__law_draw : L2.Fun K "_law_draw" "_law_draw" st__law_draw a__law_draw fd__law_draw
  m__law_draw : mg "_law_draw" = some (.ref a__law_draw)
  b__law_draw : Binds K fd__law_draw ["purse", "many"] []
  a__law_has : Addr
  fd__law_has : FuncData
  k__law_has : PySem.W.keepIn K (.ref a__law_has) = true
  F__law_has : L2.Fun K "_law_has" "_law_has" st__law_has a__law_has fd__law_has
  m__law_has : mg "_law_has" = some (.ref a__law_has)
  b__law_has : Binds K fd__law_has ["links", "pair"] []
  a__law_is_pair : Addr
  fd__law_is_pair : FuncData
  k__law_is_pair : PySem.W.keepIn K (.ref a__law_is_pair) = true
  F__law_is_pair : L2.Fun K "_law_is_pair" "_law_is_pair" st__law_is_pair a__law_is_pair fd__law_is_pair
  m__law_is_pair : mg "_law_is_pair" = some (.ref a__law_is_pair)
  b__law_is_pair : Binds K fd__law_is_pair ["thing", "names"] []
  a__law_links : Addr
  fd__law_links : FuncData
  k__law_links : PySem.W.keepIn K (.ref a__law_links) = true
  F__law_links : L2.Fun K "_law_links" "_law_links" st__law_links a__law_links fd__law_links
  m__law_links : mg "_law_links" = some (.ref a__law_links)
  b__law_links : Binds K fd__law_links ["purse", "many"] []
  a__law_names : Addr
  fd__law_names : FuncData
  k__law_names : PySem.W.keepIn K (.ref a__law_names) = true
  F__law_names : L2.Fun K "_law_names" "_law_names" st__law_names a__law_names fd__law_names
  m__law_names : mg "_law_names" = some (.ref a__law_names)
  b__law_names : Binds K fd__law_names ["purse", "many"] []
  a_Rule___contains__ : Addr
  fd_Rule___contains__ : FuncData
  k_Rule___contains__ : PySem.W.keepIn K (.ref a_Rule___contains__) = true
  F_Rule___contains__ : L2.Fun K "__contains__" "Rule.__contains__" st_Rule___contains__ a_Rule___contains__ fd_Rule___contains__
  fi_Rule___contains__ : PySem.W.findIn K (.ref (ca "Rule")) "__contains__" = some (some (.ref a_Rule___contains__))
  if_Rule___contains__ : PySem.W.isFn K (.ref a_Rule___contains__) = true
  b_Rule___contains__ : Binds K fd_Rule___contains__ ["self", "value"] []
  a_Rule___add__ : Addr
  fd_Rule___add__ : FuncData
  k_Rule___add__ : PySem.W.keepIn K (.ref a_Rule___add__) = true
  F_Rule___add__ : L2.Fun K "__add__" "Rule.__add__" st_Rule___add__ a_Rule___add__ fd_Rule___add__
  fi_Rule___add__ : PySem.W.findIn K (.ref (ca "Rule")) "__add__" = some (some (.ref a_Rule___add__))
  if_Rule___add__ : PySem.W.isFn K (.ref a_Rule___add__) = true
  b_Rule___add__ : Binds K fd_Rule___add__ ["self", "tie"] []
  a_Rule___len__ : Addr
  fd_Rule___len__ : FuncData
  k_Rule___len__ : PySem.W.keepIn K (.ref a_Rule___len__) = true
  F_Rule___len__ : L2.Fun K "__len__" "Rule.__len__" st_Rule___len__ a_Rule___len__ fd_Rule___len__
  fi_Rule___len__ : PySem.W.findIn K (.ref (ca "Rule")) "__len__" = some (some (.ref a_Rule___len__))
  if_Rule___len__ : PySem.W.isFn K (.ref a_Rule___len__) = true
  b_Rule___len__ : Binds K fd_Rule___len__ ["self"] []
  a_Rule___bool__ : Addr
  fd_Rule___bool__ : FuncData
  k_Rule___bool__ : PySem.W.keepIn K (.ref a_Rule___bool__) = true
  F_Rule___bool__ : L2.Fun K "__bool__" "Rule.__bool__" st_Rule___bool__ a_Rule___bool__ fd_Rule___bool__
  fi_Rule___bool__ : PySem.W.findIn K (.ref (ca "Rule")) "__bool__" = some (some (.ref a_Rule___bool__))
  if_Rule___bool__ : PySem.W.isFn K (.ref a_Rule___bool__) = true
  b_Rule___bool__ : Binds K fd_Rule___bool__ ["self"] []
  a_Rule___eq__ : Addr
  fd_Rule___eq__ : FuncData
  k_Rule___eq__ : PySem.W.keepIn K (.ref a_Rule___eq__) = true
  F_Rule___eq__ : L2.Fun K "__eq__" "Rule.__eq__" st_Rule___eq__ a_Rule___eq__ fd_Rule___eq__
  fi_Rule___eq__ : PySem.W.findIn K (.ref (ca "Rule")) "__eq__" = some (some (.ref a_Rule___eq__))
  if_Rule___eq__ : PySem.W.isFn K (.ref a_Rule___eq__) = true
  b_Rule___eq__ : Binds K fd_Rule___eq__ ["self", "other"] []
  a_Rule___str__ : Addr
  fd_Rule___str__ : FuncData
  k_Rule___str__ : PySem.W.keepIn K (.ref a_Rule___str__) = true
  F_Rule___str__ : L2.Fun K "__str__" "Rule.__str__" st_Rule___str__ a_Rule___str__ fd_Rule___str__
  fi_Rule___str__ : PySem.W.findIn K (.ref (ca "Rule")) "__str__" = some (some (.ref a_Rule___str__))
  if_Rule___str__ : PySem.W.isFn K (.ref a_Rule___str__) = true
  b_Rule___str__ : Binds K fd_Rule___str__ ["self"] []
  a__law_says : Addr
  fd__law_says : FuncData
  k__law_says : PySem.W.keepIn K (.ref a__law_says) = true
  F__law_says : L2.Fun K "_law_says" "_law_says" st__law_says a__law_says fd__law_says
  m__law_says : mg "_law_says" = some (.ref a__law_says)
  b__law_says : Binds K fd__law_says ["here", "thing", "due"] []
  a__law_tied : Addr
  fd__law_tied : FuncData
  k__law_tied : PySem.W.keepIn K (.ref a__law_tied) = true
  F__law_tied : L2.Fun K "_law_tied" "_law_tied" st__law_tied a__law_tied fd__law_tied
  m__law_tied : mg "_law_tied" = some (.ref a__law_tied)
  b__law_tied : Binds K fd__law_tied ["names", "pairs"] []
  a__law_right : Addr
  fd__law_right : FuncData
  k__law_right : PySem.W.keepIn K (.ref a__law_right) = true
  F__law_right : L2.Fun K "_law_right" "_law_right" st__law_right a__law_right fd__law_right
  m__law_right : mg "_law_right" = some (.ref a__law_right)
  b__law_right : Binds K fd__law_right ["purse"] []
  a_law : Addr
  fd_law : FuncData
  k_law : PySem.W.keepIn K (.ref a_law) = true
  F_law : L2.Fun K "law" "law" st_law a_law fd_law
  m_law : mg "law" = some (.ref a_law)
  b_law : Binds K fd_law ["script"] []
  n_len : mg "len" = none
  n_min : mg "min" = none
  n_max : mg "max" = none
  n_range : mg "range" = none
  n_abs : mg "abs" = none
  n_int : mg "int" = none
  sf_Rule : PySem.W.selfFirst K (ca "Rule") = true
  hu_Rule : PySem.W.subIn K (.type "tuple") (.ref (ca "Rule")) = some false
  fo_Rule___add__ : Option Value
  ro_Rule___add__ : Option Value
  hr_Rule___add__ : PySem.W.findIn K (.ref (ca "Rule")) (dunderR (Operator.info .Add).2) = some none
  h1_Rule___add__ : PySem.W.findIn K (.type "tuple") (PySem.dunder (Operator.info .Add).2) = some fo_Rule___add__
  h2_Rule___add__ : PySem.W.findIn K (.type "tuple") (dunderR (Operator.info .Add).2) = some ro_Rule___add__
  fo_Rule___sub__ : Option Value
  ro_Rule___sub__ : Option Value
  hr_Rule___sub__ : PySem.W.findIn K (.ref (ca "Rule")) (dunderR (Operator.info .Sub).2) = some none
  h1_Rule___sub__ : PySem.W.findIn K (.type "tuple") (PySem.dunder (Operator.info .Sub).2) = some fo_Rule___sub__
  h2_Rule___sub__ : PySem.W.findIn K (.type "tuple") (dunderR (Operator.info .Sub).2) = some ro_Rule___sub__
  n_list : mg "list" = none
  n_tuple : mg "tuple" = none
  nA_Rule_borders : NoAttr K (ca "Rule") (Str.ofString "borders")
  nA_Rule_lines : NoAttr K (ca "Rule") (Str.ofString "lines")
  nA_Rule_links : NoAttr K (ca "Rule") (Str.ofString "links")
  nA_Rule_sorts : NoAttr K (ca "Rule") (Str.ofString "sorts")
  n_isinstance : mg "isinstance" = none
  n_enumerate : mg "enumerate" = none
  u_MOST_KINDS : Value
  m_MOST_KINDS : mg "MOST_KINDS" = some u_MOST_KINDS
  r_MOST_KINDS : RelV (.int 6) u_MOST_KINDS
  u_LETTERS : Value
  m_LETTERS : mg "LETTERS" = some u_LETTERS
  r_LETTERS : RelV (.str (sof [97, 98, 99, 100, 101, 102, 103, 104, 105, 106, 107, 108, 109, 110, 111, 112, 113, 114, 115, 116, 117, 118, 119, 120, 121, 122])) u_LETTERS
  u_DIGITS : Value
  m_DIGITS : mg "DIGITS" = some u_DIGITS
  r_DIGITS : RelV (.str (sof [48, 49, 50, 51, 52, 53, 54, 55, 56, 57])) u_DIGITS
  n_all : mg "all" = none
  n_str : mg "str" = none
  u_LONGEST_NAME : Value
  m_LONGEST_NAME : mg "LONGEST_NAME" = some u_LONGEST_NAME
  r_LONGEST_NAME : RelV (.int 8) u_LONGEST_NAME
  n_any : mg "any" = none
  n_sorted : mg "sorted" = none
  n_set : mg "set" = none
  n_divmod : mg "divmod" = none
  n_repr : mg "repr" = none
  ci_Rule : ClsI K (ca "Rule")
  ki_Rule : PySem.W.kitOne K (.ref (ca "Rule")) (.ref (ca "Rule")) = some true
  nb_Rule : NotB K (ca "Rule")
  t_Rule___init__ : Addr
  kt_Rule___init__ : KT K t_Rule___init__ []
theorem erc_InvalidKinds {X : Cx} (T : Tx X.K X.mg) : ErrC X (T.ca "InvalidKinds") "index" := ⟨T.oe_InvalidKinds, T.no_InvalidKinds_index, _, _, T.fi_InvalidKinds___init__, T.ti_InvalidKinds___init__, ok_einit T.F_InvalidKinds___init__ ⟨rfl, rfl, rfl, by decide +kernel, rfl, by decide +kernel, by decide +kernel⟩ rfl T.oe_InvalidKinds T.no_InvalidKinds_index rfl rfl, T.b_InvalidKinds___init__⟩
theorem erc_InvalidTies {X : Cx} (T : Tx X.K X.mg) : ErrC X (T.ca "InvalidTies") "index" := ⟨T.oe_InvalidTies, T.no_InvalidTies_index, _, _, T.fi_InvalidTies___init__, T.ti_InvalidTies___init__, ok_einit T.F_InvalidTies___init__ ⟨rfl, rfl, rfl, by decide +kernel, rfl, by decide +kernel, by decide +kernel⟩ rfl T.oe_InvalidTies T.no_InvalidTies_index rfl rfl, T.b_InvalidTies___init__⟩
theorem hc_Rule_borders {K : PySem.W.Frag} {mg : Str → Option Value} (T : Tx K mg) : ∀ c ∈ ["Rule"], Cls K (T.ca c) ∧ NoAttr K (T.ca c) (Str.ofString "borders") := fun c h => by
  cases List.mem_singleton.mp h
  exact ⟨T.cl_Rule, T.nA_Rule_borders⟩
theorem hc_Rule_lines {K : PySem.W.Frag} {mg : Str → Option Value} (T : Tx K mg) : ∀ c ∈ ["Rule"], Cls K (T.ca c) ∧ NoAttr K (T.ca c) (Str.ofString "lines") := fun c h => by
  cases List.mem_singleton.mp h
  exact ⟨T.cl_Rule, T.nA_Rule_lines⟩
theorem hc_Rule_links {K : PySem.W.Frag} {mg : Str → Option Value} (T : Tx K mg) : ∀ c ∈ ["Rule"], Cls K (T.ca c) ∧ NoAttr K (T.ca c) (Str.ofString "links") := fun c h => by
  cases List.mem_singleton.mp h
  exact ⟨T.cl_Rule, T.nA_Rule_links⟩
theorem hc_Rule_sorts {K : PySem.W.Frag} {mg : Str → Option Value} (T : Tx K mg) : ∀ c ∈ ["Rule"], Cls K (T.ca c) ∧ NoAttr K (T.ca c) (Str.ofString "sorts") := fun c h => by
  cases List.mem_singleton.mp h
  exact ⟨T.cl_Rule, T.nA_Rule_sorts⟩
theorem hs_Rule {K : PySem.W.Frag} {mg : Str → Option Value} (T : Tx K mg) : ∀ c b, sub_Rule c = some b → ClsI K (T.ca c) ∧ PySem.W.kitOne K (.ref (T.ca c)) (.ref (T.ca "Rule")) = some b := fun c b h => by
  unfold sub_Rule at h
  split at h
  · rename_i e; subst e; cases h; exact ⟨T.ci_Rule, T.ki_Rule⟩
  · cases h
abbrev S__law_purse : Sx := Sx.ofDef ["script", "at", "cell", "mixed", "each"] (defScope st__law_purse) []
theorem b__law_purse {X : Cx} {R : Rd0} (T : Tx X.K X.mg) (B : Bd S__law_purse 3 T.ca X R) : PSs X (defBody st__law_purse) (tMs R ir__law_purse) :=
  ss_cons (s_setB B (by decide +kernel) (e_if (t_cmp (o_lt) (e_var B 1 (by decide +kernel)) (e_bi B (b_len0 B) (by decide +kernel) T.n_len rfl (a_cons (e_var B 0 (by decide +kernel)) (a_nil) (star_cons rfl)) rfl) rfl) (e_ix B (e_var B 0 (by decide +kernel)) (e_var B 1 (by decide +kernel))) (e_int)) rfl) (ss_cons (s_setB B (by decide +kernel) (e_op (o_add B dun0) (e_int) (e_op (o_mul) (e_int) (e_var B 1 (by decide +kernel)))) rfl) (ss_cons (s_for (B.ps rfl) B.calm (i_any B.RK.symm (e_op (o_add B dun0) (e_sl01 B (e_var B 0 (by decide +kernel)) (e_int)) (e_lst (a_cons (e_var B 2 (by decide +kernel)) (a_nil) (star_cons rfl)) (by decide)))) (c_name B (by decide +kernel)) (ss_cons (s_setB B (by decide +kernel) (e_op (o_add B dun0) (e_op (o_mul) (e_var B 3 (by decide +kernel)) (e_int)) (e_op (o_mod) (e_ty B (b_int) (by decide +kernel) T.n_int rfl (a_cons (e_var B 4 (by decide +kernel)) (a_nil) (star_cons rfl)) rfl) (e_int))) rfl) (ss_cons (s_setB B (by decide +kernel) (e_op (o_mod) (e_ty B (b_int) (by decide +kernel) T.n_int rfl (a_cons (e_op (o_add B dun0) (e_var B 3 (by decide +kernel)) (e_int)) (a_nil) (star_cons rfl)) rfl) (e_int)) rfl) (ss_nil))) (fun _ => rfl)) (ss_cons (c_ret B fun B => e_cell (a_cons (e_var B 3 (by decide +kernel)) (a_cons (e_if (t_cmp (o_ge) (e_bi B (b_abs) (by decide +kernel) T.n_abs rfl (a_cons (e_var B 2 (by decide +kernel)) (a_nil) (star_cons rfl)) rfl) (e_op (o_pow) (e_int) (e_int)) rfl) (e_bi B (b_abs) (by decide +kernel) T.n_abs rfl (a_cons (e_var B 2 (by decide +kernel)) (a_nil) (star_cons rfl)) rfl) (e_int)) (a_cons (e_int) (a_nil) (star_cons rfl)) (star_cons rfl)) (star_cons rfl)) (by decide)) (ss_nil))))
theorem g__law_purse {P : Program} {w : World} {K : PySem.W.Frag} {mg : Str → Option Value} {base : Heap} (T : Tx K mg) : FnG P w K mg base 4 T.a__law_purse T.fd__law_purse ["script", "at"] (spF K T.ca F__law_purse 2) :=
  fn_ok (N := ["script", "at", "cell", "mixed", "each"]) (k := 3) T.F__law_purse ⟨rfl, rfl, rfl, by decide +kernel, rfl, by decide +kernel, by decide +kernel⟩ rfl [] fun X R e1 e2 e3 e4 e5 B => by
    subst e1 e2 e3 e4 e5
    exact b__law_purse T B
abbrev S_is_name : Sx := Sx.ofDef ["value", "sign"] (defScope st_is_name) []
theorem b_is_name {X : Cx} {R : Rd0} (T : Tx X.K X.mg) (B : Bd S_is_name 3 T.ca X R) : PSs X (defBody st_is_name) (tMs R ir_is_name) :=
  ss_cons (s_if ((w_or (t_not (t_val (e_isi B (e_var B 0 (by decide +kernel)) (by decide +kernel) T.n_isinstance "str" (by decide +kernel) T.n_str rfl rfl rfl ⟨rfl, rfl, rfl, rfl, rfl, rfl, rfl⟩))) (w_or1 (t_not (t_chain (o_le) (o_le) (e_int) (e_bi B (b_len0 B) (by decide +kernel) T.n_len rfl (a_cons (e_var B 0 (by decide +kernel)) (a_nil) (star_cons rfl)) rfl) (e_glob B (by decide +kernel) T.m_LONGEST_NAME T.r_LONGEST_NAME (fun _ => .int 8)) rfl)))).pt) (ss_cons (c_ret B fun B => e_bl) (ss_nil)) (ss_nil)) (ss_cons (c_ret B fun B => e_and (e_cmp (o_in0 B) (e_ix B (e_var B 0 (by decide +kernel)) (e_int)) (e_glob B (by decide +kernel) T.m_LETTERS T.r_LETTERS (fun _ => .str [97, 98, 99, 100, 101, 102, 103, 104, 105, 106, 107, 108, 109, 110, 111, 112, 113, 114, 115, 116, 117, 118, 119, 120, 121, 122])) rfl) (pe_one (e_bi B (b_all B) (by decide +kernel) T.n_all rfl (a_cons (c_lc B [("sign", 1)] (PI.up (i_any B.RK.symm (e_var B 0 (by decide +kernel)))) (by decide +kernel) (fun _ _ _ _ _ B => c_name B (by decide +kernel)) (fun _ _ _ _ _ B => pts0) (fun _ _ _ _ _ B => e_or (e_cmp (o_in0 B) (e_var B 1 (by decide +kernel)) (e_glob B (by decide +kernel) T.m_LETTERS T.r_LETTERS (fun _ => .str [97, 98, 99, 100, 101, 102, 103, 104, 105, 106, 107, 108, 109, 110, 111, 112, 113, 114, 115, 116, 117, 118, 119, 120, 121, 122])) rfl) (pe_one (e_cmp (o_in0 B) (e_var B 1 (by decide +kernel)) (e_glob B (by decide +kernel) T.m_DIGITS T.r_DIGITS (fun _ => .str [48, 49, 50, 51, 52, 53, 54, 55, 56, 57])) rfl))) (by decide +kernel) (fun _ => rfl)) (a_nil) (star_cons rfl)) rfl))) (ss_nil))
theorem g_is_name {P : Program} {w : World} {K : PySem.W.Frag} {mg : Str → Option Value} {base : Heap} (T : Tx K mg) : FnG P w K mg base 4 T.a_is_name T.fd_is_name ["value"] (spF K T.ca F_is_name 1) :=
  fn_ok (N := ["value", "sign"]) (k := 3) T.F_is_name ⟨rfl, rfl, rfl, by decide +kernel, rfl, by decide +kernel, by decide +kernel⟩ rfl [] fun X R e1 e2 e3 e4 e5 B => by
    subst e1 e2 e3 e4 e5
    exact b_is_name T B
abbrev S_wrong_kind : Sx := Sx.ofDef ["kinds", "at", "kind"] (defScope st_wrong_kind) []
theorem b_wrong_kind {X : Cx} {R : Rd0} (T : Tx X.K X.mg) (B : Bd S_wrong_kind 4 T.ca X R) : PSs X (defBody st_wrong_kind) (tMs R ir_wrong_kind) :=
  ss_cons (s_for (B.ps rfl) B.calm (i_enum B (by decide +kernel) T.n_enumerate (e_var B 0 (by decide +kernel)) rfl) (c_tup B (by decide +kernel)) (ss_cons (s_if ((w_or (t_not (t_val (c_call B (g_is_name T) (by decide) (by decide +kernel) T.m_is_name T.k_is_name T.b_is_name (a_cons (e_var B 2 (by decide +kernel)) (a_nil) (star_cons rfl)) rfl rfl))) (w_or (t_cmp (o_in0 B) (e_var B 2 (by decide +kernel)) (e_sl01 B (e_var B 0 (by decide +kernel)) (e_var B 1 (by decide +kernel))) rfl) (w_or1 (t_cmp (o_ge) (e_var B 1 (by decide +kernel)) (e_glob B (by decide +kernel) T.m_MOST_KINDS T.r_MOST_KINDS (fun _ => .int 6)) rfl)))).pt) (ss_cons (c_ret B fun B => e_var B 1 (by decide +kernel)) (ss_nil)) (ss_nil)) (ss_nil)) (fun _ => rfl)) (ss_cons (c_ret B fun B => e_non) (ss_nil))
theorem g_wrong_kind {P : Program} {w : World} {K : PySem.W.Frag} {mg : Str → Option Value} {base : Heap} (T : Tx K mg) : FnG P w K mg base 5 T.a_wrong_kind T.fd_wrong_kind ["kinds"] (spF K T.ca F_wrong_kind 1) :=
  fn_ok (N := ["kinds", "at", "kind"]) (k := 4) T.F_wrong_kind ⟨rfl, rfl, rfl, by decide +kernel, rfl, by decide +kernel, by decide +kernel⟩ rfl [] fun X R e1 e2 e3 e4 e5 B => by
    subst e1 e2 e3 e4 e5
    exact b_wrong_kind T B
abbrev S_check_new_kinds : Sx := Sx.ofDef ["kinds", "wrong"] (defScope st_check_new_kinds) []
theorem b_check_new_kinds {X : Cx} {R : Rd0} (T : Tx X.K X.mg) (B : Bd S_check_new_kinds 5 T.ca X R) : PSs X (defBody st_check_new_kinds) (tMs R ir_check_new_kinds) :=
  ss_cons (s_if ((w_or (t_not (t_val (e_isi B (e_var B 0 (by decide +kernel)) (by decide +kernel) T.n_isinstance "tuple" (by decide +kernel) T.n_tuple rfl rfl rfl ⟨rfl, rfl, rfl, rfl, rfl, rfl, rfl⟩))) (w_or1 (t_cmp (o_eq B dun0) (e_bi B (b_len0 B) (by decide +kernel) T.n_len rfl (a_cons (e_var B 0 (by decide +kernel)) (a_nil) (star_cons rfl)) rfl) (e_int) rfl))).pt) (ss_cons (s_raise1 B (by decide) (by decide +kernel) T.m_InvalidKinds (erc_InvalidKinds T) (e_non) (star_cons rfl) rfl) (ss_nil)) (ss_nil)) (ss_cons (s_setB B (by decide +kernel) (c_call B (g_wrong_kind T) (by decide) (by decide +kernel) T.m_wrong_kind T.k_wrong_kind T.b_wrong_kind (a_cons (e_var B 0 (by decide +kernel)) (a_nil) (star_cons rfl)) rfl rfl) rfl) (ss_cons (s_if (t_cmp (o_notN) (e_var B 1 (by decide +kernel)) (e_non) rfl) (ss_cons (s_raise1 B (by decide) (by decide +kernel) T.m_InvalidKinds (erc_InvalidKinds T) (e_var B 1 (by decide +kernel)) (star_cons rfl) rfl) (ss_nil)) (ss_nil)) (ss_nil)))
theorem g_check_new_kinds {P : Program} {w : World} {K : PySem.W.Frag} {mg : Str → Option Value} {base : Heap} (T : Tx K mg) : FnG P w K mg base 6 T.a_check_new_kinds T.fd_check_new_kinds ["kinds"] (spF K T.ca F_check_new_kinds 1) :=
  fn_ok (N := ["kinds", "wrong"]) (k := 5) T.F_check_new_kinds ⟨rfl, rfl, rfl, by decide +kernel, rfl, by decide +kernel, by decide +kernel⟩ rfl [] fun X R e1 e2 e3 e4 e5 B => by
    subst e1 e2 e3 e4 e5
    exact b_check_new_kinds T B
abbrev S_is_tie : Sx := Sx.ofDef ["value", "kinds"] (defScope st_is_tie) []
theorem b_is_tie {X : Cx} {R : Rd0} (T : Tx X.K X.mg) (B : Bd S_is_tie 3 T.ca X R) : PSs X (defBody st_is_tie) (tMs R ir_is_tie) :=
  ss_cons (c_ret B fun B => e_and (e_isi B (e_var B 0 (by decide +kernel)) (by decide +kernel) T.n_isinstance "tuple" (by decide +kernel) T.n_tuple rfl rfl rfl ⟨rfl, rfl, rfl, rfl, rfl, rfl, rfl⟩) (e_and (e_cmp (o_eq B dun0) (e_bi B (b_len0 B) (by decide +kernel) T.n_len rfl (a_cons (e_var B 0 (by decide +kernel)) (a_nil) (star_cons rfl)) rfl) (e_int) rfl) (e_and (e_cmp (o_in0 B) (e_ix B (e_var B 0 (by decide +kernel)) (e_int)) (e_var B 1 (by decide +kernel)) rfl) (pe_one (e_cmp (o_in0 B) (e_ix B (e_var B 0 (by decide +kernel)) (e_int)) (e_var B 1 (by decide +kernel)) rfl))))) (ss_nil)
theorem g_is_tie {P : Program} {w : World} {K : PySem.W.Frag} {mg : Str → Option Value} {base : Heap} (T : Tx K mg) : FnG P w K mg base 4 T.a_is_tie T.fd_is_tie ["value", "kinds"] (spF K T.ca F_is_tie 2) :=
  fn_ok (N := ["value", "kinds"]) (k := 3) T.F_is_tie ⟨rfl, rfl, rfl, by decide +kernel, rfl, by decide +kernel, by decide +kernel⟩ rfl [] fun X R e1 e2 e3 e4 e5 B => by
    subst e1 e2 e3 e4 e5
    exact b_is_tie T B
abbrev S_is_told : Sx := Sx.ofDef ["ties", "tie"] (defScope st_is_told) []
theorem b_is_told {X : Cx} {R : Rd0} (T : Tx X.K X.mg) (B : Bd S_is_told 3 T.ca X R) : PSs X (defBody st_is_told) (tMs R ir_is_told) :=
  ss_cons (c_ret B fun B => e_or (e_cmp (o_in0 B) (e_var B 1 (by decide +kernel)) (e_var B 0 (by decide +kernel)) rfl) (pe_one (e_cmp (o_in0 B) (e_tup (a_cons (e_ix B (e_var B 1 (by decide +kernel)) (e_int)) (a_cons (e_ix B (e_var B 1 (by decide +kernel)) (e_int)) (a_nil) (star_cons rfl)) (star_cons rfl)) (by decide)) (e_var B 0 (by decide +kernel)) rfl))) (ss_nil)
theorem g_is_told {P : Program} {w : World} {K : PySem.W.Frag} {mg : Str → Option Value} {base : Heap} (T : Tx K mg) : FnG P w K mg base 4 T.a_is_told T.fd_is_told ["ties", "tie"] (spF K T.ca F_is_told 2) :=
  fn_ok (N := ["ties", "tie"]) (k := 3) T.F_is_told ⟨rfl, rfl, rfl, by decide +kernel, rfl, by decide +kernel, by decide +kernel⟩ rfl [] fun X R e1 e2 e3 e4 e5 B => by
    subst e1 e2 e3 e4 e5
    exact b_is_told T B
abbrev S_wrong_tie : Sx := Sx.ofDef ["ties", "kinds", "at", "tie"] (defScope st_wrong_tie) []
theorem b_wrong_tie {X : Cx} {R : Rd0} (T : Tx X.K X.mg) (B : Bd S_wrong_tie 4 T.ca X R) : PSs X (defBody st_wrong_tie) (tMs R ir_wrong_tie) :=
  ss_cons (s_for (B.ps rfl) B.calm (i_enum B (by decide +kernel) T.n_enumerate (e_var B 0 (by decide +kernel)) rfl) (c_tup B (by decide +kernel)) (ss_cons (s_if ((w_or (t_not (t_val (c_call B (g_is_tie T) (by decide) (by decide +kernel) T.m_is_tie T.k_is_tie T.b_is_tie (a_cons (e_var B 3 (by decide +kernel)) (a_cons (e_var B 1 (by decide +kernel)) (a_nil) (star_cons rfl)) (star_cons rfl)) rfl rfl))) (w_or1 (t_val (c_call B (g_is_told T) (by decide) (by decide +kernel) T.m_is_told T.k_is_told T.b_is_told (a_cons (e_sl01 B (e_var B 0 (by decide +kernel)) (e_var B 2 (by decide +kernel))) (a_cons (e_var B 3 (by decide +kernel)) (a_nil) (star_cons rfl)) (star_cons rfl)) rfl rfl)))).pt) (ss_cons (c_ret B fun B => e_var B 2 (by decide +kernel)) (ss_nil)) (ss_nil)) (ss_nil)) (fun _ => rfl)) (ss_cons (c_ret B fun B => e_non) (ss_nil))
theorem g_wrong_tie {P : Program} {w : World} {K : PySem.W.Frag} {mg : Str → Option Value} {base : Heap} (T : Tx K mg) : FnG P w K mg base 5 T.a_wrong_tie T.fd_wrong_tie ["ties", "kinds"] (spF K T.ca F_wrong_tie 2) :=
  fn_ok (N := ["ties", "kinds", "at", "tie"]) (k := 4) T.F_wrong_tie ⟨rfl, rfl, rfl, by decide +kernel, rfl, by decide +kernel, by decide +kernel⟩ rfl [] fun X R e1 e2 e3 e4 e5 B => by
    subst e1 e2 e3 e4 e5
    exact b_wrong_tie T B
abbrev S_check_ties : Sx := Sx.ofDef ["ties", "kinds", "wrong"] (defScope st_check_ties) []
theorem b_check_ties {X : Cx} {R : Rd0} (T : Tx X.K X.mg) (B : Bd S_check_ties 5 T.ca X R) : PSs X (defBody st_check_ties) (tMs R ir_check_ties) :=
  ss_cons (s_if (t_not (t_val (e_isi B (e_var B 0 (by decide +kernel)) (by decide +kernel) T.n_isinstance "tuple" (by decide +kernel) T.n_tuple rfl rfl rfl ⟨rfl, rfl, rfl, rfl, rfl, rfl, rfl⟩))) (ss_cons (s_raise1 B (by decide) (by decide +kernel) T.m_InvalidTies (erc_InvalidTies T) (e_non) (star_cons rfl) rfl) (ss_nil)) (ss_nil)) (ss_cons (s_setB B (by decide +kernel) (c_call B (g_wrong_tie T) (by decide) (by decide +kernel) T.m_wrong_tie T.k_wrong_tie T.b_wrong_tie (a_cons (e_var B 0 (by decide +kernel)) (a_cons (e_var B 1 (by decide +kernel)) (a_nil) (star_cons rfl)) (star_cons rfl)) rfl rfl) rfl) (ss_cons (s_if (t_cmp (o_notN) (e_var B 2 (by decide +kernel)) (e_non) rfl) (ss_cons (s_raise1 B (by decide) (by decide +kernel) T.m_InvalidTies (erc_InvalidTies T) (e_var B 2 (by decide +kernel)) (star_cons rfl) rfl) (ss_nil)) (ss_nil)) (ss_nil)))
theorem g_check_ties {P : Program} {w : World} {K : PySem.W.Frag} {mg : Str → Option Value} {base : Heap} (T : Tx K mg) : FnG P w K mg base 6 T.a_check_ties T.fd_check_ties ["ties", "kinds"] (spF K T.ca F_check_ties 2) :=
  fn_ok (N := ["ties", "kinds", "wrong"]) (k := 5) T.F_check_ties ⟨rfl, rfl, rfl, by decide +kernel, rfl, by decide +kernel, by decide +kernel⟩ rfl [] fun X R e1 e2 e3 e4 e5 B => by
    subst e1 e2 e3 e4 e5
    exact b_check_ties T B
abbrev S_lump_around : Sx := Sx.ofDef ["near", "start", "found", "turn", "one", "two"] (defScope st_lump_around) []
theorem b_lump_around {X : Cx} {R : Rd0} (T : Tx X.K X.mg) (B : Bd S_lump_around 3 T.ca X R) : PSs X (defBody st_lump_around) (tMs R ir_lump_around) :=
  ss_cons (s_setB B (by decide +kernel) (e_lst (a_cons (e_var B 1 (by decide +kernel)) (a_nil) (star_cons rfl)) (by decide)) rfl) (ss_cons (s_for (B.ps rfl) B.calm (i_range1 (gl_of B (by decide +kernel)).1 T.n_range (a_cons (e_bi B (b_len0 B) (by decide +kernel) T.n_len rfl (a_cons (e_var B 0 (by decide +kernel)) (a_nil) (star_cons rfl)) rfl) (a_nil) (star_cons rfl)) rfl) (c_name B (by decide +kernel)) (ss_cons (s_setB B (by decide +kernel) (e_sortset B (by decide +kernel) T.n_sorted (by decide +kernel) T.n_set (e_op (o_add B dun0) (e_var B 2 (by decide +kernel)) (c_lc2 B [("one", 4), ("two", 5)] [5] (PI.up (i_any B.RK.symm (e_var B 2 (by decide +kernel)))) (by decide +kernel) (by decide +kernel) (fun _ _ _ _ _ B => c_name B (by decide +kernel)) (fun _ _ _ _ _ B => pts0) (fun _ _ _ _ _ B => i_any B.RK.symm (e_ix B (e_var B 0 (by decide +kernel)) (e_var B 4 (by decide +kernel)))) (fun _ _ _ _ _ B => c_name B (by decide +kernel)) (fun _ _ _ _ _ B => pts0) (fun _ _ _ _ _ B => e_var B 5 (by decide +kernel)) (by decide +kernel) (by decide +kernel) (fun _ => rfl) (fun _ _ => rfl))) rfl) rfl) (ss_nil)) (fun _ => rfl)) (ss_cons (c_ret B fun B => e_ty B (b_tuple B) (by decide +kernel) T.n_tuple rfl (a_cons (e_var B 2 (by decide +kernel)) (a_nil) (star_cons rfl)) rfl) (ss_nil)))
theorem g_lump_around {P : Program} {w : World} {K : PySem.W.Frag} {mg : Str → Option Value} {base : Heap} (T : Tx K mg) : FnG P w K mg base 4 T.a_lump_around T.fd_lump_around ["near", "start"] (spF K T.ca F_lump_around 2) :=
  fn_ok (N := ["near", "start", "found", "turn", "one", "two"]) (k := 3) T.F_lump_around ⟨rfl, rfl, rfl, by decide +kernel, rfl, by decide +kernel, by decide +kernel⟩ rfl [] fun X R e1 e2 e3 e4 e5 B => by
    subst e1 e2 e3 e4 e5
    exact b_lump_around T B
abbrev S_near_outside : Sx := Sx.ofDef ["many", "ties", "chosen", "both", "one", "two", "at"] (defScope st_near_outside) []
theorem b_near_outside {X : Cx} {R : Rd0} (T : Tx X.K X.mg) (B : Bd S_near_outside 3 T.ca X R) : PSs X (defBody st_near_outside) (tMs R ir_near_outside) :=
  ss_cons (s_setB B (by decide +kernel) (c_lc B [("one", 4), ("two", 5)] (PI.up (i_any B.RK.symm (e_var B 1 (by decide +kernel)))) (by decide +kernel) (fun _ _ _ _ _ B => c_tup B (by decide +kernel)) (fun _ _ _ _ _ B => pts1 ((w_and (t_cmp (o_notIn B) (e_var B 4 (by decide +kernel)) (e_var B 2 (by decide +kernel)) rfl) (w_and1 (t_cmp (o_notIn B) (e_var B 5 (by decide +kernel)) (e_var B 2 (by decide +kernel)) rfl))).pt)) (fun _ _ _ _ _ B => e_tup (a_cons (e_var B 4 (by decide +kernel)) (a_cons (e_var B 5 (by decide +kernel)) (a_nil) (star_cons rfl)) (star_cons rfl)) (by decide)) (by decide +kernel) (fun _ => rfl)) (sw_cell B rfl (by decide +kernel))) (ss_cons (s_setB B (by decide +kernel) (e_op (o_add B dun0) (e_var B 3 (by decide +kernel)) (c_lc B [("one", 4), ("two", 5)] (PI.up (i_any B.RK.symm (e_var B 3 (by decide +kernel)))) (by decide +kernel) (fun _ _ _ _ _ B => c_tup B (by decide +kernel)) (fun _ _ _ _ _ B => pts0) (fun _ _ _ _ _ B => e_tup (a_cons (e_var B 5 (by decide +kernel)) (a_cons (e_var B 4 (by decide +kernel)) (a_nil) (star_cons rfl)) (star_cons rfl)) (by decide)) (by decide +kernel) (fun _ => rfl))) rfl) (ss_cons (c_ret B fun B => c_dc B [("at", 6)] (PI.up (i_range1 (gl_of B (by decide +kernel)).1 T.n_range (a_cons (e_var B 0 (by decide +kernel)) (a_nil) (star_cons rfl)) rfl)) (by decide +kernel) (fun _ _ _ _ _ B => c_name B (by decide +kernel)) (fun _ _ _ _ _ B => pts1 (t_cmp (o_notIn B) (e_var B 6 (by decide +kernel)) (e_var B 2 (by decide +kernel)) rfl)) (fun _ _ _ _ _ B => e_var B 6 (by decide +kernel)) (fun _ _ _ _ _ B => c_lc B [("one", 4), ("two", 5)] (PI.up (i_any B.RK.symm (e_var B 3 (by decide +kernel)))) (by decide +kernel) (fun _ _ _ _ _ B => c_tup B (by decide +kernel)) (fun _ _ _ _ _ B => pts1 (t_cmp (o_eq B dun0) (e_var B 4 (by decide +kernel)) (e_var B 6 (by decide +kernel)) rfl)) (fun _ _ _ _ _ B => e_var B 5 (by decide +kernel)) (by decide +kernel) (fun _ => rfl)) (by decide +kernel) (fun _ => rfl)) (ss_nil)))
theorem g_near_outside {P : Program} {w : World} {K : PySem.W.Frag} {mg : Str → Option Value} {base : Heap} (T : Tx K mg) : FnG P w K mg base 4 T.a_near_outside T.fd_near_outside ["many", "ties", "chosen"] (spF K T.ca F_near_outside 3) :=
  fn_ok (N := ["many", "ties", "chosen", "both", "one", "two", "at"]) (k := 3) T.F_near_outside ⟨rfl, rfl, rfl, by decide +kernel, rfl, by decide +kernel, by decide +kernel⟩ rfl [] fun X R e1 e2 e3 e4 e5 B => by
    subst e1 e2 e3 e4 e5
    exact b_near_outside T B
abbrev S_cut_of : Sx := Sx.ofDef ["many", "ties", "chosen", "near", "lone", "at", "lumps", "lump"] (defScope st_cut_of) []
theorem b_cut_of {X : Cx} {R : Rd0} (T : Tx X.K X.mg) (B : Bd S_cut_of 4 T.ca X R) : PSs X (defBody st_cut_of) (tMs R ir_cut_of) :=
  ss_cons (s_setB B (by decide +kernel) (c_call B (g_near_outside T) (by decide) (by decide +kernel) T.m_near_outside T.k_near_outside T.b_near_outside (a_cons (e_var B 0 (by decide +kernel)) (a_cons (e_var B 1 (by decide +kernel)) (a_cons (e_var B 2 (by decide +kernel)) (a_nil) (star_cons rfl)) (star_cons rfl)) (star_cons rfl)) rfl rfl) rfl) (ss_cons (s_setB B (by decide +kernel) (e_ty B (b_tuple B) (by decide +kernel) T.n_tuple rfl (a_cons (c_lc B [("at", 5)] (PI.up (i_any B.RK.symm (e_var B 3 (by decide +kernel)))) (by decide +kernel) (fun _ _ _ _ _ B => c_name B (by decide +kernel)) (fun _ _ _ _ _ B => pts1 (t_cmp (o_eq B dun0) (e_ix B (e_var B 3 (by decide +kernel)) (e_var B 5 (by decide +kernel))) (e_lst (a_nil) (by decide)) rfl)) (fun _ _ _ _ _ B => e_var B 5 (by decide +kernel)) (by decide +kernel) (fun _ => rfl)) (a_nil) (star_cons rfl)) rfl) rfl) (ss_cons (s_setB B (by decide +kernel) (e_lst (a_nil) (by decide)) rfl) (ss_cons (s_for (B.ps rfl) B.calm (i_any B.RK.symm (e_var B 3 (by decide +kernel))) (c_name B (by decide +kernel)) (ss_cons (s_if ((w_and (t_cmp (o_notIn B) (e_var B 5 (by decide +kernel)) (e_var B 4 (by decide +kernel)) rfl) (w_and1 (t_not (t_val (e_bi B (b_any B) (by decide +kernel) T.n_any rfl (a_cons (c_lc B [("lump", 7)] (PI.up (i_any B.RK.symm (e_var B 6 (by decide +kernel)))) (by decide +kernel) (fun _ _ _ _ _ B => c_name B (by decide +kernel)) (fun _ _ _ _ _ B => pts0) (fun _ _ _ _ _ B => e_cmp (o_in0 B) (e_var B 5 (by decide +kernel)) (e_var B 7 (by decide +kernel)) rfl) (by decide +kernel) (fun _ => rfl)) (a_nil) (star_cons rfl)) rfl))))).pt) (ss_cons (s_setB B (by decide +kernel) (e_op (o_add B dun0) (e_var B 6 (by decide +kernel)) (e_lst (a_cons (c_call B (g_lump_around T) (by decide) (by decide +kernel) T.m_lump_around T.k_lump_around T.b_lump_around (a_cons (e_var B 3 (by decide +kernel)) (a_cons (e_var B 5 (by decide +kernel)) (a_nil) (star_cons rfl)) (star_cons rfl)) rfl rfl) (a_nil) (star_cons rfl)) (by decide))) rfl) (ss_nil)) (ss_nil)) (ss_nil)) (fun _ => rfl)) (ss_cons (c_ret B fun B => e_tup (a_cons (e_var B 2 (by decide +kernel)) (a_cons (e_var B 4 (by decide +kernel)) (a_cons (e_ty B (b_tuple B) (by decide +kernel) T.n_tuple rfl (a_cons (e_var B 6 (by decide +kernel)) (a_nil) (star_cons rfl)) rfl) (a_nil) (star_cons rfl)) (star_cons rfl)) (star_cons rfl)) (by decide)) (ss_nil)))))
theorem g_cut_of {P : Program} {w : World} {K : PySem.W.Frag} {mg : Str → Option Value} {base : Heap} (T : Tx K mg) : FnG P w K mg base 5 T.a_cut_of T.fd_cut_of ["many", "ties", "chosen"] (spF K T.ca F_cut_of 3) :=
  fn_ok (N := ["many", "ties", "chosen", "near", "lone", "at", "lumps", "lump"]) (k := 4) T.F_cut_of ⟨rfl, rfl, rfl, by decide +kernel, rfl, by decide +kernel, by decide +kernel⟩ rfl [] fun X R e1 e2 e3 e4 e5 B => by
    subst e1 e2 e3 e4 e5
    exact b_cut_of T B
abbrev S_subsets : Sx := Sx.ofDef ["many", "found", "at", "row"] (defScope st_subsets) []
theorem b_subsets {X : Cx} {R : Rd0} (T : Tx X.K X.mg) (B : Bd S_subsets 3 T.ca X R) : PSs X (defBody st_subsets) (tMs R ir_subsets) :=
  ss_cons (s_setB B (by decide +kernel) (e_lst (a_cons (e_tup (a_nil) (by decide)) (a_nil) (star_cons rfl)) (by decide)) rfl) (ss_cons (s_for (B.ps rfl) B.calm (i_range1 (gl_of B (by decide +kernel)).1 T.n_range (a_cons (e_var B 0 (by decide +kernel)) (a_nil) (star_cons rfl)) rfl) (c_name B (by decide +kernel)) (ss_cons (s_setB B (by decide +kernel) (e_op (o_add B dun0) (e_var B 1 (by decide +kernel)) (c_lc B [("row", 3)] (PI.up (i_any B.RK.symm (e_var B 1 (by decide +kernel)))) (by decide +kernel) (fun _ _ _ _ _ B => c_name B (by decide +kernel)) (fun _ _ _ _ _ B => pts0) (fun _ _ _ _ _ B => e_op (o_add B dun0) (e_var B 3 (by decide +kernel)) (e_tup (a_cons (e_var B 2 (by decide +kernel)) (a_nil) (star_cons rfl)) (by decide))) (by decide +kernel) (fun _ => rfl))) rfl) (ss_nil)) (fun _ => rfl)) (ss_cons (c_ret B fun B => e_var B 1 (by decide +kernel)) (ss_nil)))
theorem g_subsets {P : Program} {w : World} {K : PySem.W.Frag} {mg : Str → Option Value} {base : Heap} (T : Tx K mg) : FnG P w K mg base 4 T.a_subsets T.fd_subsets ["many"] (spF K T.ca F_subsets 1) :=
  fn_ok (N := ["many", "found", "at", "row"]) (k := 3) T.F_subsets ⟨rfl, rfl, rfl, by decide +kernel, rfl, by decide +kernel, by decide +kernel⟩ rfl [] fun X R e1 e2 e3 e4 e5 B => by
    subst e1 e2 e3 e4 e5
    exact b_subsets T B
abbrev S_cuts_of : Sx := Sx.ofDef ["many", "ties", "chosen"] (defScope st_cuts_of) []
theorem b_cuts_of {X : Cx} {R : Rd0} (T : Tx X.K X.mg) (B : Bd S_cuts_of 5 T.ca X R) : PSs X (defBody st_cuts_of) (tMs R ir_cuts_of) :=
  ss_cons (c_ret B fun B => e_ty B (b_tuple B) (by decide +kernel) T.n_tuple rfl (a_cons (c_lc B [("chosen", 2)] (PI.up (i_any B.RK.symm (c_call B (g_subsets T) (by decide) (by decide +kernel) T.m_subsets T.k_subsets T.b_subsets (a_cons (e_var B 0 (by decide +kernel)) (a_nil) (star_cons rfl)) rfl rfl))) (by decide +kernel) (fun _ _ _ _ _ B => c_name B (by decide +kernel)) (fun _ _ _ _ _ B => pts0) (fun _ _ _ _ _ B => c_call B (g_cut_of T) (by decide) (by decide +kernel) T.m_cut_of T.k_cut_of T.b_cut_of (a_cons (e_var B 0 (by decide +kernel)) (a_cons (e_var B 1 (by decide +kernel)) (a_cons (e_var B 2 (by decide +kernel)) (a_nil) (star_cons rfl)) (star_cons rfl)) (star_cons rfl)) rfl rfl) (by decide +kernel) (fun _ => rfl)) (a_nil) (star_cons rfl)) rfl) (ss_nil)
theorem g_cuts_of {P : Program} {w : World} {K : PySem.W.Frag} {mg : Str → Option Value} {base : Heap} (T : Tx K mg) : FnG P w K mg base 6 T.a_cuts_of T.fd_cuts_of ["many", "ties"] (spF K T.ca F_cuts_of 2) :=
  fn_ok (N := ["many", "ties", "chosen"]) (k := 5) T.F_cuts_of ⟨rfl, rfl, rfl, by decide +kernel, rfl, by decide +kernel, by decide +kernel⟩ rfl [] fun X R e1 e2 e3 e4 e5 B => by
    subst e1 e2 e3 e4 e5
    exact b_cuts_of T B
abbrev S_place_of : Sx := Sx.ofDef ["kinds", "kind", "at", "known"] (defScope st_place_of) []
theorem b_place_of {X : Cx} {R : Rd0} (T : Tx X.K X.mg) (B : Bd S_place_of 3 T.ca X R) : PSs X (defBody st_place_of) (tMs R ir_place_of) :=
  ss_cons (c_ret B fun B => e_ix B (c_lc B [("at", 2), ("known", 3)] (PI.up (i_enum B (by decide +kernel) T.n_enumerate (e_var B 0 (by decide +kernel)) rfl)) (by decide +kernel) (fun _ _ _ _ _ B => c_tup B (by decide +kernel)) (fun _ _ _ _ _ B => pts1 (t_cmp (o_eq B dun0) (e_var B 3 (by decide +kernel)) (e_var B 1 (by decide +kernel)) rfl)) (fun _ _ _ _ _ B => e_var B 2 (by decide +kernel)) (by decide +kernel) (fun _ => rfl)) (e_int)) (ss_nil)
theorem g_place_of {P : Program} {w : World} {K : PySem.W.Frag} {mg : Str → Option Value} {base : Heap} (T : Tx K mg) : FnG P w K mg base 4 T.a_place_of T.fd_place_of ["kinds", "kind"] (spF K T.ca F_place_of 2) :=
  fn_ok (N := ["kinds", "kind", "at", "known"]) (k := 3) T.F_place_of ⟨rfl, rfl, rfl, by decide +kernel, rfl, by decide +kernel, by decide +kernel⟩ rfl [] fun X R e1 e2 e3 e4 e5 B => by
    subst e1 e2 e3 e4 e5
    exact b_place_of T B
abbrev S_Rule___init__ : Sx := Sx.ofDef ["self", "kinds", "ties", "one", "two"] (defScope st_Rule___init__) []
theorem b_Rule___init__ {X : Cx} {R : Rd0} (T : Tx X.K X.mg) (B : Bd S_Rule___init__ 6 T.ca X R) : PSs X (defBody st_Rule___init__) (tMs R ir_Rule___init__) :=
  ss_cons (s_ex (c_call B (g_check_new_kinds T) (by decide) (by decide +kernel) T.m_check_new_kinds T.k_check_new_kinds T.b_check_new_kinds (a_cons (e_var B 1 (by decide +kernel)) (a_nil) (star_cons rfl)) rfl rfl) rfl) (ss_cons (s_ex (c_call B (g_check_ties T) (by decide) (by decide +kernel) T.m_check_ties T.k_check_ties T.b_check_ties (a_cons (e_var B 2 (by decide +kernel)) (a_cons (e_var B 1 (by decide +kernel)) (a_nil) (star_cons rfl)) (star_cons rfl)) rfl rfl) rfl) (ss_cons (s_fld B (f := "sorts") (e_var B 0 (by decide +kernel)) (e_var B 1 (by decide +kernel)) (hc_Rule_sorts T) rfl) (ss_cons (s_fld B (f := "links") (e_var B 0 (by decide +kernel)) (e_var B 2 (by decide +kernel)) (hc_Rule_links T) rfl) (ss_cons (s_fld B (f := "lines") (e_var B 0 (by decide +kernel)) (e_ty B (b_tuple B) (by decide +kernel) T.n_tuple rfl (a_cons (c_lc B [("one", 3), ("two", 4)] (PI.up (i_any B.RK.symm (e_var B 2 (by decide +kernel)))) (by decide +kernel) (fun _ _ _ _ _ B => c_tup B (by decide +kernel)) (fun _ _ _ _ _ B => pts0) (fun _ _ _ _ _ B => e_tup (a_cons (c_call B (g_place_of T) (by decide) (by decide +kernel) T.m_place_of T.k_place_of T.b_place_of (a_cons (e_var B 1 (by decide +kernel)) (a_cons (e_var B 3 (by decide +kernel)) (a_nil) (star_cons rfl)) (star_cons rfl)) rfl rfl) (a_cons (c_call B (g_place_of T) (by decide) (by decide +kernel) T.m_place_of T.k_place_of T.b_place_of (a_cons (e_var B 1 (by decide +kernel)) (a_cons (e_var B 4 (by decide +kernel)) (a_nil) (star_cons rfl)) (star_cons rfl)) rfl rfl) (a_nil) (star_cons rfl)) (star_cons rfl)) (by decide)) (by decide +kernel) (fun _ => rfl)) (a_nil) (star_cons rfl)) rfl) (hc_Rule_lines T) rfl) (ss_cons (s_fld B (f := "borders") (e_var B 0 (by decide +kernel)) (c_call B (g_cuts_of T) (by decide) (by decide +kernel) T.m_cuts_of T.k_cuts_of T.b_cuts_of (a_cons (e_bi B (b_len0 B) (by decide +kernel) T.n_len rfl (a_cons (e_var B 1 (by decide +kernel)) (a_nil) (star_cons rfl)) rfl) (a_cons (e_fld B (f := "lines") (e_var B 0 (by decide +kernel)) (hc_Rule_lines T) rfl) (a_nil) (star_cons rfl)) (star_cons rfl)) rfl rfl) (hc_Rule_borders T) rfl) (ss_nil))))))
theorem g_Rule___init__ {P : Program} {w : World} {K : PySem.W.Frag} {mg : Str → Option Value} {base : Heap} (T : Tx K mg) : FnG P w K mg base 7 T.a_Rule___init__ T.fd_Rule___init__ ["self", "kinds", "ties"] (spF K T.ca F_Rule___init__ 3) :=
  fn_okD (dV := .ref T.dt_Rule___init__) (N := ["self", "kinds", "ties", "one", "two"]) (k := 6) T.F_Rule___init__ ⟨rfl, rfl, rfl, by decide +kernel, rfl, by decide +kernel, by decide +kernel⟩ rfl [] fun X R e1 e2 e3 e4 e5 B => by
    subst e1 e2 e3 e4 e5
    exact b_Rule___init__ T B
abbrev S_Rule___sub__ : Sx := Sx.ofDef ["self", "tie", "link"] (defScope st_Rule___sub__) []
theorem b_Rule___sub__ {X : Cx} {R : Rd0} (T : Tx X.K X.mg) (B : Bd S_Rule___sub__ 8 T.ca X R) : PSs X (defBody st_Rule___sub__) (tMs R ir_Rule___sub__) :=
  ss_cons (s_if (t_not (t_val (c_call B (g_is_tie T) (by decide) (by decide +kernel) T.m_is_tie T.k_is_tie T.b_is_tie (a_cons (e_var B 1 (by decide +kernel)) (a_cons (e_fld B (f := "sorts") (e_var B 0 (by decide +kernel)) (hc_Rule_sorts T) rfl) (a_nil) (star_cons rfl)) (star_cons rfl)) rfl rfl))) (ss_cons (s_raise1 B (by decide) (by decide +kernel) T.m_InvalidTies (erc_InvalidTies T) (e_non) (star_cons rfl) rfl) (ss_nil)) (ss_nil)) (ss_cons (s_if (t_not (t_val (c_call B (g_is_told T) (by decide) (by decide +kernel) T.m_is_told T.k_is_told T.b_is_told (a_cons (e_fld B (f := "links") (e_var B 0 (by decide +kernel)) (hc_Rule_links T) rfl) (a_cons (e_var B 1 (by decide +kernel)) (a_nil) (star_cons rfl)) (star_cons rfl)) rfl rfl))) (ss_cons (s_die) (ss_nil)) (ss_nil)) (ss_cons (c_ret B fun B => c_mkV B (c := "Rule") T.mk_Rule (g_Rule___init__ T) (by decide) (by decide +kernel) T.m_Rule T.b_Rule___init__ (a_cons (e_fld B (f := "sorts") (e_var B 0 (by decide +kernel)) (hc_Rule_sorts T) rfl) (a_cons (e_ty B (b_tuple B) (by decide +kernel) T.n_tuple rfl (a_cons (c_lc B [("link", 2)] (PI.up (i_any B.RK.symm (e_fld B (f := "links") (e_var B 0 (by decide +kernel)) (hc_Rule_links T) rfl))) (by decide +kernel) (fun _ _ _ _ _ B => c_name B (by decide +kernel)) (fun _ _ _ _ _ B => pts1 (t_cmp (o_notIn B) (e_var B 2 (by decide +kernel)) (e_tup (a_cons (e_var B 1 (by decide +kernel)) (a_cons (e_tup (a_cons (e_ix B (e_var B 1 (by decide +kernel)) (e_int)) (a_cons (e_ix B (e_var B 1 (by decide +kernel)) (e_int)) (a_nil) (star_cons rfl)) (star_cons rfl)) (by decide)) (a_nil) (star_cons rfl)) (star_cons rfl)) (by decide)) rfl)) (fun _ _ _ _ _ B => e_var B 2 (by decide +kernel)) (by decide +kernel) (fun _ => rfl)) (a_nil) (star_cons rfl)) rfl) (a_nil) (star_cons rfl)) (star_cons rfl)) rfl rfl rfl) (ss_nil)))
theorem g_Rule___sub__ {P : Program} {w : World} {K : PySem.W.Frag} {mg : Str → Option Value} {base : Heap} (T : Tx K mg) : FnG P w K mg base 9 T.a_Rule___sub__ T.fd_Rule___sub__ ["self", "tie"] (spF K T.ca F_Rule___sub__ 2) :=
  fn_ok (N := ["self", "tie", "link"]) (k := 8) T.F_Rule___sub__ ⟨rfl, rfl, rfl, by decide +kernel, rfl, by decide +kernel, by decide +kernel⟩ rfl [] fun X R e1 e2 e3 e4 e5 B => by
    subst e1 e2 e3 e4 e5
    exact b_Rule___sub__ T B
abbrev S__law_draw : Sx := Sx.ofDef ["purse", "many", "digit", "mixed"] (defScope st__law_draw) []
theorem b__law_draw {X : Cx} {R : Rd0} (T : Tx X.K X.mg) (B : Bd S__law_draw 3 T.ca X R) : PSs X (defBody st__law_draw) (tMs R ir__law_draw) :=
  ss_cons (s_if (t_cmp (o_gt) (e_ix B (e_var B 0 (by decide +kernel)) (e_int)) (e_int) rfl) (ss_cons (s_asgT B (gas_cons (ga_cell B (e_var B 0 (by decide +kernel)) (e_int) (fun _ => rfl)) (gas_cons (ga_name B (by decide +kernel)) (gas_nil) rfl) rfl) (e_bi B (b_divmod) (by decide +kernel) T.n_divmod rfl (a_cons (e_ix B (e_var B 0 (by decide +kernel)) (e_int)) (a_cons (e_var B 1 (by decide +kernel)) (a_nil) (star_cons rfl)) (star_cons rfl)) rfl) rfl rfl rfl rfl rfl) (ss_cons (c_ret B fun B => e_var B 2 (by decide +kernel)) (ss_nil))) (ss_nil)) (ss_cons (s_asg1 (fun _ h => nomatch h) (ga_cell B (e_var B 0 (by decide +kernel)) (e_int) (fun _ => rfl)) (e_op (o_add B dun0) (e_ix B (e_var B 0 (by decide +kernel)) (e_int)) (e_int)) rfl rfl rfl) (ss_cons (s_setB B (by decide +kernel) (e_op (o_add B dun0) (e_op (o_add B dun0) (e_op (o_mul) (e_ix B (e_var B 0 (by decide +kernel)) (e_int)) (e_int)) (e_op (o_mul) (e_op (o_mul) (e_int) (e_ix B (e_var B 0 (by decide +kernel)) (e_int))) (e_ix B (e_var B 0 (by decide +kernel)) (e_int)))) (e_int)) rfl) (ss_cons (s_asg1 (fun _ h => nomatch h) (ga_cell B (e_var B 0 (by decide +kernel)) (e_int) (fun _ => rfl)) (e_op (o_mod) (e_ty B (b_int) (by decide +kernel) T.n_int rfl (a_cons (e_var B 3 (by decide +kernel)) (a_nil) (star_cons rfl)) rfl) (e_int)) rfl rfl rfl) (ss_cons (c_ret B fun B => e_op (o_mod) (e_ty B (b_int) (by decide +kernel) T.n_int rfl (a_cons (e_op (o_div) (e_ix B (e_var B 0 (by decide +kernel)) (e_int)) (e_int)) (a_nil) (star_cons rfl)) rfl) (e_var B 1 (by decide +kernel))) (ss_nil)))))
theorem g__law_draw {P : Program} {w : World} {K : PySem.W.Frag} {mg : Str → Option Value} {base : Heap} (T : Tx K mg) : FnG P w K mg base 4 T.a__law_draw T.fd__law_draw ["purse", "many"] (spF K T.ca F__law_draw 2) :=
  fn_ok (N := ["purse", "many", "digit", "mixed"]) (k := 3) T.F__law_draw ⟨rfl, rfl, rfl, by decide +kernel, rfl, by decide +kernel, by decide +kernel⟩ rfl [] fun X R e1 e2 e3 e4 e5 B => by
    subst e1 e2 e3 e4 e5
    exact b__law_draw T B
abbrev S__law_has : Sx := Sx.ofDef ["links", "pair"] (defScope st__law_has) []
theorem b__law_has {X : Cx} {R : Rd0} (T : Tx X.K X.mg) (B : Bd S__law_has 3 T.ca X R) : PSs X (defBody st__law_has) (tMs R ir__law_has) :=
  ss_cons (c_ret B fun B => e_or (e_cmp (o_in0 B) (e_var B 1 (by decide +kernel)) (e_var B 0 (by decide +kernel)) rfl) (pe_one (e_cmp (o_in0 B) (e_tup (a_cons (e_ix B (e_var B 1 (by decide +kernel)) (e_int)) (a_cons (e_ix B (e_var B 1 (by decide +kernel)) (e_int)) (a_nil) (star_cons rfl)) (star_cons rfl)) (by decide)) (e_var B 0 (by decide +kernel)) rfl))) (ss_nil)
theorem g__law_has {P : Program} {w : World} {K : PySem.W.Frag} {mg : Str → Option Value} {base : Heap} (T : Tx K mg) : FnG P w K mg base 4 T.a__law_has T.fd__law_has ["links", "pair"] (spF K T.ca F__law_has 2) :=
  fn_ok (N := ["links", "pair"]) (k := 3) T.F__law_has ⟨rfl, rfl, rfl, by decide +kernel, rfl, by decide +kernel, by decide +kernel⟩ rfl [] fun X R e1 e2 e3 e4 e5 B => by
    subst e1 e2 e3 e4 e5
    exact b__law_has T B
abbrev S__law_is_pair : Sx := Sx.ofDef ["thing", "names"] (defScope st__law_is_pair) []
theorem b__law_is_pair {X : Cx} {R : Rd0} (T : Tx X.K X.mg) (B : Bd S__law_is_pair 3 T.ca X R) : PSs X (defBody st__law_is_pair) (tMs R ir__law_is_pair) :=
  ss_cons (c_ret B fun B => e_and (e_isi B (e_var B 0 (by decide +kernel)) (by decide +kernel) T.n_isinstance "tuple" (by decide +kernel) T.n_tuple rfl rfl rfl ⟨rfl, rfl, rfl, rfl, rfl, rfl, rfl⟩) (e_and (e_cmp (o_eq B dun0) (e_bi B (b_len0 B) (by decide +kernel) T.n_len rfl (a_cons (e_var B 0 (by decide +kernel)) (a_nil) (star_cons rfl)) rfl) (e_int) rfl) (e_and (e_cmp (o_in0 B) (e_ix B (e_var B 0 (by decide +kernel)) (e_int)) (e_var B 1 (by decide +kernel)) rfl) (pe_one (e_cmp (o_in0 B) (e_ix B (e_var B 0 (by decide +kernel)) (e_int)) (e_var B 1 (by decide +kernel)) rfl))))) (ss_nil)
theorem g__law_is_pair {P : Program} {w : World} {K : PySem.W.Frag} {mg : Str → Option Value} {base : Heap} (T : Tx K mg) : FnG P w K mg base 4 T.a__law_is_pair T.fd__law_is_pair ["thing", "names"] (spF K T.ca F__law_is_pair 2) :=
  fn_ok (N := ["thing", "names"]) (k := 3) T.F__law_is_pair ⟨rfl, rfl, rfl, by decide +kernel, rfl, by decide +kernel, by decide +kernel⟩ rfl [] fun X R e1 e2 e3 e4 e5 B => by
    subst e1 e2 e3 e4 e5
    exact b__law_is_pair T B
abbrev S__law_links : Sx := Sx.ofDef ["purse", "many", "chance", "found", "one", "two", "pair"] (defScope st__law_links) [3]
theorem b__law_links {X : Cx} {R : Rd0} (T : Tx X.K X.mg) (B : Bd S__law_links 4 T.ca X R) : PSs X (defBody st__law_links) (tMs R ir__law_links) :=
  ss_cons (s_par2 (fl := [false, true]) B rfl (by decide +kernel) (by decide +kernel) (by decide) (by decide +kernel) (by decide +kernel) (by decide +kernel) (by decide +kernel) (mx_val (e_op (o_add B dun0) (e_int) (c_call B (g__law_draw T) (by decide) (by decide +kernel) T.m__law_draw T.k__law_draw T.b__law_draw (a_cons (e_var B 0 (by decide +kernel)) (a_cons (e_int) (a_nil) (star_cons rfl)) (star_cons rfl)) rfl rfl)) (mx_own (f_lst (a_nil) (by decide)) (mx_nil) rfl) rfl)) (ss_cons (s_for (B.ps rfl) B.calm (i_range1 (gl_of B (by decide +kernel)).1 T.n_range (a_cons (e_var B 1 (by decide +kernel)) (a_nil) (star_cons rfl)) rfl) (c_name B (by decide +kernel)) (ss_cons (s_for (B.ps rfl) B.calm (i_range1 (gl_of B (by decide +kernel)).1 T.n_range (a_cons (e_op (o_add B dun0) (e_var B 4 (by decide +kernel)) (e_int)) (a_nil) (star_cons rfl)) rfl) (c_name B (by decide +kernel)) (ss_cons (s_if (t_cmp (o_lt) (c_call B (g__law_draw T) (by decide) (by decide +kernel) T.m__law_draw T.k__law_draw T.b__law_draw (a_cons (e_var B 0 (by decide +kernel)) (a_cons (e_if (t_cmp (o_lt) (e_var B 5 (by decide +kernel)) (e_var B 4 (by decide +kernel)) rfl) (e_int) (e_int)) (a_nil) (star_cons rfl)) (star_cons rfl)) rfl rfl) (e_var B 2 (by decide +kernel)) rfl) (ss_cons (s_setB B (by decide +kernel) (e_if (t_cmp (o_eq B dun0) (c_call B (g__law_draw T) (by decide) (by decide +kernel) T.m__law_draw T.k__law_draw T.b__law_draw (a_cons (e_var B 0 (by decide +kernel)) (a_cons (e_int) (a_nil) (star_cons rfl)) (star_cons rfl)) rfl rfl) (e_int) rfl) (e_tup (a_cons (e_var B 4 (by decide +kernel)) (a_cons (e_var B 5 (by decide +kernel)) (a_nil) (star_cons rfl)) (star_cons rfl)) (by decide)) (e_tup (a_cons (e_var B 5 (by decide +kernel)) (a_cons (e_var B 4 (by decide +kernel)) (a_nil) (star_cons rfl)) (star_cons rfl)) (by decide))) rfl) (ss_cons (s_meth B (by decide +kernel) PySem.F.slot_list_insert PySem.F.type_list_insert mp_insert (a_cons (c_call B (g__law_draw T) (by decide) (by decide +kernel) T.m__law_draw T.k__law_draw T.b__law_draw (a_cons (e_var B 0 (by decide +kernel)) (a_cons (e_op (o_add B dun0) (e_bi B (b_len0 B) (by decide +kernel) T.n_len rfl (a_cons (e_var B 3 (by decide +kernel)) (a_nil) (star_cons rfl)) rfl) (e_int)) (a_nil) (star_cons rfl)) (star_cons rfl)) rfl rfl) (a_cons (e_var B 6 (by decide +kernel)) (a_nil) (star_cons rfl)) (star_cons rfl)) rfl (app_grows (.inr rfl)) rfl rfl rfl rfl) (ss_nil))) (ss_nil)) (ss_nil)) (fun _ => rfl)) (ss_nil)) (fun _ => rfl)) (ss_cons (c_ret B fun B => e_var B 3 (by decide +kernel)) (ss_nil)))
theorem g__law_links {P : Program} {w : World} {K : PySem.W.Frag} {mg : Str → Option Value} {base : Heap} (T : Tx K mg) : FnG P w K mg base 5 T.a__law_links T.fd__law_links ["purse", "many"] (spF K T.ca F__law_links 2) :=
  fn_ok (N := ["purse", "many", "chance", "found", "one", "two", "pair"]) (k := 4) T.F__law_links ⟨rfl, rfl, rfl, by decide +kernel, rfl, by decide +kernel, by decide +kernel⟩ rfl [3] fun X R e1 e2 e3 e4 e5 B => by
    subst e1 e2 e3 e4 e5
    exact b__law_links T B
abbrev S__law_names : Sx := Sx.ofDef ["purse", "many", "signs", "words", "found", "at", "more", "longer", "word", "each", "k"] (defScope st__law_names) [4]
theorem b__law_names {X : Cx} {R : Rd0} (T : Tx X.K X.mg) (B : Bd S__law_names 4 T.ca X R) : PSs X (defBody st__law_names) (tMs R ir__law_names) :=
  ss_cons (s_par2 (fl := [false, false]) B rfl (by decide +kernel) (by decide +kernel) (by decide) (by decide +kernel) (by decide +kernel) (by decide +kernel) (by decide +kernel) (mx_val (e_str [97, 98, 99, 100, 101, 102, 103, 104, 105, 106, 107, 108, 109, 110, 111, 112, 113, 114, 115, 116, 117, 118, 119, 120, 121, 122, 48, 49, 50, 51, 52, 53, 54, 55, 56, 57] (by decide +kernel)) (mx_val (e_lst (a_cons (e_str [107, 105, 110, 100, 115] (by decide +kernel)) (a_cons (e_str [116, 105, 101] (by decide +kernel)) (a_cons (e_str [111, 118, 101, 114] (by decide +kernel)) (a_cons (e_str [97] (by decide +kernel)) (a_cons (e_str [98] (by decide +kernel)) (a_cons (e_str [108, 101, 102, 116] (by decide +kernel)) (a_cons (e_str [109, 101, 101, 116] (by decide +kernel)) (a_cons (e_str [122, 48] (by decide +kernel)) (a_nil) (star_cons rfl)) (star_cons rfl)) (star_cons rfl)) (star_cons rfl)) (star_cons rfl)) (star_cons rfl)) (star_cons rfl)) (star_cons rfl)) (by decide)) (mx_nil) rfl) rfl)) (ss_cons (s_ownB B (by decide +kernel) (by decide +kernel) (f_lst (a_nil) (by decide)) rfl) (ss_cons (s_for (B.ps rfl) B.calm (i_range1 (gl_of B (by decide +kernel)).1 T.n_range (a_cons (e_var B 1 (by decide +kernel)) (a_nil) (star_cons rfl)) rfl) (c_name B (by decide +kernel)) (ss_cons (s_par2 (fl := [false, false]) B rfl (by decide +kernel) (by decide +kernel) (by decide) (by decide +kernel) (by decide +kernel) (by decide +kernel) (by decide +kernel) (mx_val (c_call B (g__law_draw T) (by decide) (by decide +kernel) T.m__law_draw T.k__law_draw T.b__law_draw (a_cons (e_var B 0 (by decide +kernel)) (a_cons (e_int) (a_nil) (star_cons rfl)) (star_cons rfl)) rfl rfl) (mx_val (e_ix B (e_var B 2 (by decide +kernel)) (c_call B (g__law_draw T) (by decide) (by decide +kernel) T.m__law_draw T.k__law_draw T.b__law_draw (a_cons (e_var B 0 (by decide +kernel)) (a_cons (e_int) (a_nil) (star_cons rfl)) (star_cons rfl)) rfl rfl)) (mx_nil) rfl) rfl)) (ss_cons (s_for (B.ps rfl) B.calm (i_range1 (gl_of B (by decide +kernel)).1 T.n_range (a_cons (c_call B (g__law_draw T) (by decide) (by decide +kernel) T.m__law_draw T.k__law_draw T.b__law_draw (a_cons (e_var B 0 (by decide +kernel)) (a_cons (e_if (t_cmp (o_eq B dun0) (e_var B 7 (by decide +kernel)) (e_int) rfl) (e_int) (e_int)) (a_nil) (star_cons rfl)) (star_cons rfl)) rfl rfl) (a_nil) (star_cons rfl)) rfl) (c_name B (by decide +kernel)) (ss_cons (s_setB B (by decide +kernel) (e_op (o_add B dun0) (e_var B 8 (by decide +kernel)) (e_ix B (e_var B 2 (by decide +kernel)) (c_call B (g__law_draw T) (by decide) (by decide +kernel) T.m__law_draw T.k__law_draw T.b__law_draw (a_cons (e_var B 0 (by decide +kernel)) (a_cons (e_int) (a_nil) (star_cons rfl)) (star_cons rfl)) rfl rfl))) rfl) (ss_nil)) (fun _ => rfl)) (ss_cons (s_if (t_cmp (o_eq B dun0) (c_call B (g__law_draw T) (by decide) (by decide +kernel) T.m__law_draw T.k__law_draw T.b__law_draw (a_cons (e_var B 0 (by decide +kernel)) (a_cons (e_int) (a_nil) (star_cons rfl)) (star_cons rfl)) rfl rfl) (e_int) rfl) (ss_cons (s_setB B (by decide +kernel) (e_ix B (e_var B 3 (by decide +kernel)) (c_call B (g__law_draw T) (by decide) (by decide +kernel) T.m__law_draw T.k__law_draw T.b__law_draw (a_cons (e_var B 0 (by decide +kernel)) (a_cons (e_int) (a_nil) (star_cons rfl)) (star_cons rfl)) rfl rfl)) rfl) (ss_nil)) (ss_nil)) (ss_cons (s_if (t_cmp (o_in0 B) (e_var B 8 (by decide +kernel)) (e_var B 4 (by decide +kernel)) rfl) (ss_cons (s_setB B (by decide +kernel) (e_ix B (c_lc B [("each", 9)] (PI.up (i_any B.RK.symm (c_lc B [("k", 10)] (PI.up (i_range1 (gl_of B (by decide +kernel)).1 T.n_range (a_cons (e_var B 1 (by decide +kernel)) (a_nil) (star_cons rfl)) rfl)) (by decide +kernel) (fun _ _ _ _ _ B => c_name B (by decide +kernel)) (fun _ _ _ _ _ B => pts0) (fun _ _ _ _ _ B => e_op (o_add B dun0) (e_str [121] (by decide +kernel)) (e_ty B (b_str) (by decide +kernel) T.n_str rfl (a_cons (e_var B 10 (by decide +kernel)) (a_nil) (star_cons rfl)) rfl)) (by decide +kernel) (fun _ => rfl)))) (by decide +kernel) (fun _ _ _ _ _ B => c_name B (by decide +kernel)) (fun _ _ _ _ _ B => pts1 (t_cmp (o_notIn B) (e_var B 9 (by decide +kernel)) (e_var B 4 (by decide +kernel)) rfl)) (fun _ _ _ _ _ B => e_var B 9 (by decide +kernel)) (by decide +kernel) (fun _ => rfl)) (e_int)) rfl) (ss_nil)) (ss_nil)) (ss_cons (s_meth B (by decide +kernel) PySem.F.slot_list_append PySem.F.type_list_append mp_append (a_cons (e_var B 8 (by decide +kernel)) (a_nil) (star_cons rfl)) rfl (app_grows (.inl rfl)) rfl rfl rfl rfl) (ss_nil)))))) (fun _ => rfl)) (ss_cons (c_ret B fun B => e_var B 4 (by decide +kernel)) (ss_nil))))
theorem g__law_names {P : Program} {w : World} {K : PySem.W.Frag} {mg : Str → Option Value} {base : Heap} (T : Tx K mg) : FnG P w K mg base 5 T.a__law_names T.fd__law_names ["purse", "many"] (spF K T.ca F__law_names 2) :=
  fn_ok (N := ["purse", "many", "signs", "words", "found", "at", "more", "longer", "word", "each", "k"]) (k := 4) T.F__law_names ⟨rfl, rfl, rfl, by decide +kernel, rfl, by decide +kernel, by decide +kernel⟩ rfl [4] fun X R e1 e2 e3 e4 e5 B => by
    subst e1 e2 e3 e4 e5
    exact b__law_names T B
abbrev S_Rule___contains__ : Sx := Sx.ofDef ["self", "value"] (defScope st_Rule___contains__) []
theorem b_Rule___contains__ {X : Cx} {R : Rd0} (T : Tx X.K X.mg) (B : Bd S_Rule___contains__ 4 T.ca X R) : PSs X (defBody st_Rule___contains__) (tMs R ir_Rule___contains__) :=
  ss_cons (c_ret B fun B => e_and (c_call B (g_is_tie T) (by decide) (by decide +kernel) T.m_is_tie T.k_is_tie T.b_is_tie (a_cons (e_var B 1 (by decide +kernel)) (a_cons (e_fld B (f := "sorts") (e_var B 0 (by decide +kernel)) (hc_Rule_sorts T) rfl) (a_nil) (star_cons rfl)) (star_cons rfl)) rfl rfl) (pe_one (c_call B (g_is_told T) (by decide) (by decide +kernel) T.m_is_told T.k_is_told T.b_is_told (a_cons (e_fld B (f := "links") (e_var B 0 (by decide +kernel)) (hc_Rule_links T) rfl) (a_cons (e_var B 1 (by decide +kernel)) (a_nil) (star_cons rfl)) (star_cons rfl)) rfl rfl))) (ss_nil)
theorem g_Rule___contains__ {P : Program} {w : World} {K : PySem.W.Frag} {mg : Str → Option Value} {base : Heap} (T : Tx K mg) : FnG P w K mg base 5 T.a_Rule___contains__ T.fd_Rule___contains__ ["self", "value"] (spF K T.ca F_Rule___contains__ 2) :=
  fn_ok (N := ["self", "value"]) (k := 4) T.F_Rule___contains__ ⟨rfl, rfl, rfl, by decide +kernel, rfl, by decide +kernel, by decide +kernel⟩ rfl [] fun X R e1 e2 e3 e4 e5 B => by
    subst e1 e2 e3 e4 e5
    exact b_Rule___contains__ T B
abbrev S_Rule___add__ : Sx := Sx.ofDef ["self", "tie"] (defScope st_Rule___add__) []
theorem b_Rule___add__ {X : Cx} {R : Rd0} (T : Tx X.K X.mg) (B : Bd S_Rule___add__ 8 T.ca X R) : PSs X (defBody st_Rule___add__) (tMs R ir_Rule___add__) :=
  ss_cons (s_if (t_not (t_val (c_call B (g_is_tie T) (by decide) (by decide +kernel) T.m_is_tie T.k_is_tie T.b_is_tie (a_cons (e_var B 1 (by decide +kernel)) (a_cons (e_fld B (f := "sorts") (e_var B 0 (by decide +kernel)) (hc_Rule_sorts T) rfl) (a_nil) (star_cons rfl)) (star_cons rfl)) rfl rfl))) (ss_cons (s_raise1 B (by decide) (by decide +kernel) T.m_InvalidTies (erc_InvalidTies T) (e_non) (star_cons rfl) rfl) (ss_nil)) (ss_nil)) (ss_cons (s_if (t_val (c_call B (g_is_told T) (by decide) (by decide +kernel) T.m_is_told T.k_is_told T.b_is_told (a_cons (e_fld B (f := "links") (e_var B 0 (by decide +kernel)) (hc_Rule_links T) rfl) (a_cons (e_var B 1 (by decide +kernel)) (a_nil) (star_cons rfl)) (star_cons rfl)) rfl rfl)) (ss_cons (s_die) (ss_nil)) (ss_nil)) (ss_cons (c_ret B fun B => c_mkV B (c := "Rule") T.mk_Rule (g_Rule___init__ T) (by decide) (by decide +kernel) T.m_Rule T.b_Rule___init__ (a_cons (e_fld B (f := "sorts") (e_var B 0 (by decide +kernel)) (hc_Rule_sorts T) rfl) (a_cons (e_op (o_add B dun0) (e_fld B (f := "links") (e_var B 0 (by decide +kernel)) (hc_Rule_links T) rfl) (e_tup (a_cons (e_var B 1 (by decide +kernel)) (a_nil) (star_cons rfl)) (by decide))) (a_nil) (star_cons rfl)) (star_cons rfl)) rfl rfl rfl) (ss_nil)))
theorem g_Rule___add__ {P : Program} {w : World} {K : PySem.W.Frag} {mg : Str → Option Value} {base : Heap} (T : Tx K mg) : FnG P w K mg base 9 T.a_Rule___add__ T.fd_Rule___add__ ["self", "tie"] (spF K T.ca F_Rule___add__ 2) :=
  fn_ok (N := ["self", "tie"]) (k := 8) T.F_Rule___add__ ⟨rfl, rfl, rfl, by decide +kernel, rfl, by decide +kernel, by decide +kernel⟩ rfl [] fun X R e1 e2 e3 e4 e5 B => by
    subst e1 e2 e3 e4 e5
    exact b_Rule___add__ T B
abbrev S_Rule___len__ : Sx := Sx.ofDef ["self"] (defScope st_Rule___len__) []
theorem b_Rule___len__ {X : Cx} {R : Rd0} (T : Tx X.K X.mg) (B : Bd S_Rule___len__ 3 T.ca X R) : PSs X (defBody st_Rule___len__) (tMs R ir_Rule___len__) :=
  ss_cons (c_ret B fun B => e_bi B (b_len0 B) (by decide +kernel) T.n_len rfl (a_cons (e_fld B (f := "links") (e_var B 0 (by decide +kernel)) (hc_Rule_links T) rfl) (a_nil) (star_cons rfl)) rfl) (ss_nil)
theorem g_Rule___len__ {P : Program} {w : World} {K : PySem.W.Frag} {mg : Str → Option Value} {base : Heap} (T : Tx K mg) : FnG P w K mg base 4 T.a_Rule___len__ T.fd_Rule___len__ ["self"] (spF K T.ca F_Rule___len__ 1) :=
  fn_ok (N := ["self"]) (k := 3) T.F_Rule___len__ ⟨rfl, rfl, rfl, by decide +kernel, rfl, by decide +kernel, by decide +kernel⟩ rfl [] fun X R e1 e2 e3 e4 e5 B => by
    subst e1 e2 e3 e4 e5
    exact b_Rule___len__ T B
abbrev S_Rule___bool__ : Sx := Sx.ofDef ["self"] (defScope st_Rule___bool__) []
theorem b_Rule___bool__ {X : Cx} {R : Rd0} (T : Tx X.K X.mg) (B : Bd S_Rule___bool__ 3 T.ca X R) : PSs X (defBody st_Rule___bool__) (tMs R ir_Rule___bool__) :=
  ss_cons (c_ret B fun B => e_bl) (ss_nil)
theorem g_Rule___bool__ {P : Program} {w : World} {K : PySem.W.Frag} {mg : Str → Option Value} {base : Heap} (T : Tx K mg) : FnG P w K mg base 4 T.a_Rule___bool__ T.fd_Rule___bool__ ["self"] (spF K T.ca F_Rule___bool__ 1) :=
  fn_ok (N := ["self"]) (k := 3) T.F_Rule___bool__ ⟨rfl, rfl, rfl, by decide +kernel, rfl, by decide +kernel, by decide +kernel⟩ rfl [] fun X R e1 e2 e3 e4 e5 B => by
    subst e1 e2 e3 e4 e5
    exact b_Rule___bool__ T B
abbrev S_Rule___eq__ : Sx := Sx.ofDef ["self", "other"] (defScope st_Rule___eq__) []
theorem b_Rule___eq__ {X : Cx} {R : Rd0} (T : Tx X.K X.mg) (B : Bd S_Rule___eq__ 3 T.ca X R) : PSs X (defBody st_Rule___eq__) (tMs R ir_Rule___eq__) :=
  ss_cons (c_ret B fun B => e_and (e_isiOwn B (e_var B 1 (by decide +kernel)) (by decide +kernel) T.n_isinstance (by decide +kernel) T.m_Rule rfl rfl T.nb_Rule (hs_Rule T)) (e_and (e_cmp (o_eq B dun0) (e_fld B (f := "sorts") (e_var B 0 (by decide +kernel)) (hc_Rule_sorts T) rfl) (e_fld B (f := "sorts") (e_var B 1 (by decide +kernel)) (hc_Rule_sorts T) rfl) rfl) (pe_one (e_cmp (o_eq B dun0) (e_fld B (f := "links") (e_var B 0 (by decide +kernel)) (hc_Rule_links T) rfl) (e_fld B (f := "links") (e_var B 1 (by decide +kernel)) (hc_Rule_links T) rfl) rfl)))) (ss_nil)
theorem g_Rule___eq__ {P : Program} {w : World} {K : PySem.W.Frag} {mg : Str → Option Value} {base : Heap} (T : Tx K mg) : FnG P w K mg base 4 T.a_Rule___eq__ T.fd_Rule___eq__ ["self", "other"] (spF K T.ca F_Rule___eq__ 2) :=
  fn_ok (N := ["self", "other"]) (k := 3) T.F_Rule___eq__ ⟨rfl, rfl, rfl, by decide +kernel, rfl, by decide +kernel, by decide +kernel⟩ rfl [] fun X R e1 e2 e3 e4 e5 B => by
    subst e1 e2 e3 e4 e5
    exact b_Rule___eq__ T B
abbrev S_Rule___str__ : Sx := Sx.ofDef ["self", "one", "two"] (defScope st_Rule___str__) []
theorem b_Rule___str__ {X : Cx} {R : Rd0} (T : Tx X.K X.mg) (B : Bd S_Rule___str__ 3 T.ca X R) : PSs X (defBody st_Rule___str__) (tMs R ir_Rule___str__) :=
  ss_cons (c_ret B fun B => e_join (e_str [10] (by decide +kernel)) (e_lstS (as_one (e_join (e_str [32] (by decide +kernel)) (e_lstS (as_one (e_str [107, 105, 110, 100, 115] (by decide +kernel)) (as_star B.RK.symm (e_fld B (f := "sorts") (e_var B 0 (by decide +kernel)) (hc_Rule_sorts T) rfl) (as_nil)) rfl)) rfl) (as_star B.RK.symm (c_lc B [("one", 1), ("two", 2)] (PI.up (i_any B.RK.symm (e_fld B (f := "links") (e_var B 0 (by decide +kernel)) (hc_Rule_links T) rfl))) (by decide +kernel) (fun _ _ _ _ _ B => c_tup B (by decide +kernel)) (fun _ _ _ _ _ B => pts0) (fun _ _ _ _ _ B => e_fstr (j_str [116, 105, 101, 32] (by decide +kernel) (by decide) (j_fmt (e_var B 1 (by decide +kernel)) (j_str [32] (by decide +kernel) (by decide) (j_fmt (e_var B 2 (by decide +kernel)) (j_nil))))) (by decide)) (by decide +kernel) (fun _ => rfl)) (as_nil)) rfl)) rfl) (ss_nil)
theorem g_Rule___str__ {P : Program} {w : World} {K : PySem.W.Frag} {mg : Str → Option Value} {base : Heap} (T : Tx K mg) : FnG P w K mg base 4 T.a_Rule___str__ T.fd_Rule___str__ ["self"] (spF K T.ca F_Rule___str__ 1) :=
  fn_ok (N := ["self", "one", "two"]) (k := 3) T.F_Rule___str__ ⟨rfl, rfl, rfl, by decide +kernel, rfl, by decide +kernel, by decide +kernel⟩ rfl [] fun X R e1 e2 e3 e4 e5 B => by
    subst e1 e2 e3 e4 e5
    exact b_Rule___str__ T B
theorem hd___add__ {X : Cx} (T : Tx X.K X.mg) : ∀ c F', tabR c "__add__" = some F' → ∃ F, F' = rT F ∧ DnB X 9 T.ca c .Add "tuple" F := by
  intro c F' h
  unfold tabR at h
  simp only [String.reduceEq, and_false, and_true, if_false, reduceCtorEq] at h
  split at h
  · rename_i e; subst e; cases h; exact ⟨_, rfl, ⟨⟨T.a_Rule___add__, T.fd_Rule___add__, ["self", "tie"], T.fi_Rule___add__, T.if_Rule___add__, g_Rule___add__ T, T.b_Rule___add__, rfl⟩, T.sf_Rule, ⟨_, T.hr_Rule___add__, .inl rfl⟩, ⟨_, T.h1_Rule___add__⟩, ⟨_, T.h2_Rule___add__⟩, T.hu_Rule⟩⟩
  · cases h
theorem hd___sub__ {X : Cx} (T : Tx X.K X.mg) : ∀ c F', tabR c "__sub__" = some F' → ∃ F, F' = rT F ∧ DnB X 9 T.ca c .Sub "tuple" F := by
  intro c F' h
  unfold tabR at h
  simp only [String.reduceEq, and_false, and_true, if_false, reduceCtorEq] at h
  split at h
  · rename_i e; subst e; cases h; exact ⟨_, rfl, ⟨⟨T.a_Rule___sub__, T.fd_Rule___sub__, ["self", "tie"], T.fi_Rule___sub__, T.if_Rule___sub__, g_Rule___sub__ T, T.b_Rule___sub__, rfl⟩, T.sf_Rule, ⟨_, T.hr_Rule___sub__, .inl rfl⟩, ⟨_, T.h1_Rule___sub__⟩, ⟨_, T.h2_Rule___sub__⟩, T.hu_Rule⟩⟩
  · cases h
theorem hd___contains__ {X : Cx} (T : Tx X.K X.mg) : ∀ c F', tabR c "__contains__" = some F' → ∃ F, F' = blF F ∧ Dn X 5 T.ca c "__contains__" 2 F := by
  intro c F' h
  unfold tabR at h
  simp only [String.reduceEq, and_false, and_true, if_false, reduceCtorEq] at h
  split at h
  · rename_i e; subst e; cases h; exact ⟨_, rfl, ⟨T.a_Rule___contains__, T.fd_Rule___contains__, ["self", "value"], T.fi_Rule___contains__, T.if_Rule___contains__, g_Rule___contains__ T, T.b_Rule___contains__, rfl⟩⟩
  · cases h
theorem hd___len__ {X : Cx} (T : Tx X.K X.mg) : ∀ c F', tabR c "__len__" = some F' → ∃ F, F' = lenF F ∧ Dn X 4 T.ca c "__len__" 1 F := by
  intro c F' h
  unfold tabR at h
  simp only [String.reduceEq, and_false, and_true, if_false, reduceCtorEq] at h
  split at h
  · rename_i e; subst e; cases h; exact ⟨_, rfl, ⟨T.a_Rule___len__, T.fd_Rule___len__, ["self"], T.fi_Rule___len__, T.if_Rule___len__, g_Rule___len__ T, T.b_Rule___len__, rfl⟩⟩
  · cases h
theorem hd___bool__ {X : Cx} (T : Tx X.K X.mg) : ∀ c F', tabR c "__bool__" = some F' → ∃ F, F' = blF F ∧ Dn X 4 T.ca c "__bool__" 1 F := by
  intro c F' h
  unfold tabR at h
  simp only [String.reduceEq, and_false, and_true, if_false, reduceCtorEq] at h
  split at h
  · rename_i e; subst e; cases h; exact ⟨_, rfl, ⟨T.a_Rule___bool__, T.fd_Rule___bool__, ["self"], T.fi_Rule___bool__, T.if_Rule___bool__, g_Rule___bool__ T, T.b_Rule___bool__, rfl⟩⟩
  · cases h
theorem hd___eq__ {X : Cx} (T : Tx X.K X.mg) : ∀ c F', tabR c "__eq__" = some F' → ∃ F, F' = rIns c (blF F) ∧ Dn X 4 T.ca c "__eq__" 2 F := by
  intro c F' h
  unfold tabR at h
  simp only [String.reduceEq, and_false, and_true, if_false, reduceCtorEq] at h
  split at h
  · rename_i e; subst e; cases h; exact ⟨_, rfl, ⟨T.a_Rule___eq__, T.fd_Rule___eq__, ["self", "other"], T.fi_Rule___eq__, T.if_Rule___eq__, g_Rule___eq__ T, T.b_Rule___eq__, rfl⟩⟩
  · cases h
theorem hd___str__ {X : Cx} (T : Tx X.K X.mg) : ∀ c F', tabR c "__str__" = some F' → ∃ F, F' = strF F ∧ Dn X 4 T.ca c "__str__" 1 F := by
  intro c F' h
  unfold tabR at h
  simp only [String.reduceEq, and_false, and_true, if_false, reduceCtorEq] at h
  split at h
  · rename_i e; subst e; cases h; exact ⟨_, rfl, ⟨T.a_Rule___str__, T.fd_Rule___str__, ["self"], T.fi_Rule___str__, T.if_Rule___str__, g_Rule___str__ T, T.b_Rule___str__, rfl⟩⟩
  · cases h
abbrev S__law_says : Sx := Sx.ofDef ["here", "thing", "due"] (defScope st__law_says) []
theorem b__law_says {X : Cx} {R : Rd0} (T : Tx X.K X.mg) (B : Bd S__law_says 5 T.ca X R) : PSs X (defBody st__law_says) (tMs R ir__law_says) :=
  ss_cons (c_ret B fun B => e_cmp (o_eq B dun0) (e_bi B (b_repr B) (by decide +kernel) T.n_repr rfl (a_cons (e_lst (a_cons (e_cmp (q := false) (oq_in B (d_in B (by decide) (hd___contains__ T))) (e_var B 1 (by decide +kernel)) (e_var B 0 (by decide +kernel)) rfl) (a_cons (e_cmp (q := false) (oq_notIn B (d_notIn B (by decide) (hd___contains__ T))) (e_var B 1 (by decide +kernel)) (e_var B 0 (by decide +kernel)) rfl) (a_nil) (star_cons rfl)) (star_cons rfl)) (by decide)) (a_nil) (star_cons rfl)) rfl) (e_bi B (b_repr B) (by decide +kernel) T.n_repr rfl (a_cons (e_lst (a_cons (e_var B 2 (by decide +kernel)) (a_cons (e_not (e_var B 2 (by decide +kernel))) (a_nil) (star_cons rfl)) (star_cons rfl)) (by decide)) (a_nil) (star_cons rfl)) rfl) rfl) (ss_nil)
theorem g__law_says {P : Program} {w : World} {K : PySem.W.Frag} {mg : Str → Option Value} {base : Heap} (T : Tx K mg) : FnG P w K mg base 6 T.a__law_says T.fd__law_says ["here", "thing", "due"] (spF K T.ca F__law_says 3) :=
  fn_ok (N := ["here", "thing", "due"]) (k := 5) T.F__law_says ⟨rfl, rfl, rfl, by decide +kernel, rfl, by decide +kernel, by decide +kernel⟩ rfl [] fun X R e1 e2 e3 e4 e5 B => by
    subst e1 e2 e3 e4 e5
    exact b__law_says T B
abbrev S__law_tied : Sx := Sx.ofDef ["names", "pairs", "one", "two"] (defScope st__law_tied) []
theorem b__law_tied {X : Cx} {R : Rd0} (T : Tx X.K X.mg) (B : Bd S__law_tied 3 T.ca X R) : PSs X (defBody st__law_tied) (tMs R ir__law_tied) :=
  ss_cons (c_ret B fun B => e_ty B (b_tuple B) (by decide +kernel) T.n_tuple rfl (a_cons (c_lc B [("one", 2), ("two", 3)] (PI.up (i_any B.RK.symm (e_var B 1 (by decide +kernel)))) (by decide +kernel) (fun _ _ _ _ _ B => c_tup B (by decide +kernel)) (fun _ _ _ _ _ B => pts0) (fun _ _ _ _ _ B => e_tup (a_cons (e_ix B (e_var B 0 (by decide +kernel)) (e_var B 2 (by decide +kernel))) (a_cons (e_ix B (e_var B 0 (by decide +kernel)) (e_var B 3 (by decide +kernel))) (a_nil) (star_cons rfl)) (star_cons rfl)) (by decide)) (by decide +kernel) (fun _ => rfl)) (a_nil) (star_cons rfl)) rfl) (ss_nil)
theorem g__law_tied {P : Program} {w : World} {K : PySem.W.Frag} {mg : Str → Option Value} {base : Heap} (T : Tx K mg) : FnG P w K mg base 4 T.a__law_tied T.fd__law_tied ["names", "pairs"] (spF K T.ca F__law_tied 2) :=
  fn_ok (N := ["names", "pairs", "one", "two"]) (k := 3) T.F__law_tied ⟨rfl, rfl, rfl, by decide +kernel, rfl, by decide +kernel, by decide +kernel⟩ rfl [] fun X R e1 e2 e3 e4 e5 B => by
    subst e1 e2 e3 e4 e5
    exact b__law_tied T B
abbrev S__law_right : Sx := Sx.ofDef ["purse", "cases", "things", "turn", "names", "links", "one", "two", "link", "here", "thing", "pair"] (defScope st__law_right) [1]
theorem b__law_right {X : Cx} {R : Rd0} (T : Tx X.K X.mg) (B : Bd S__law_right 9 T.ca X R) : PSs X (defBody st__law_right) (tMs R ir__law_right) :=
  ss_cons (s_par2 (fl := [true, false]) B rfl (by decide +kernel) (by decide +kernel) (by decide) (by decide +kernel) (by decide +kernel) (by decide +kernel) (by decide +kernel) (mx_own (f_lst (a_nil) (by decide)) (mx_val (e_lst (a_cons (e_non) (a_cons (e_int) (a_cons (e_bl) (a_cons (e_str [] (by decide +kernel)) (a_cons (e_tup (a_nil) (by decide)) (a_cons (e_lst (a_nil) (by decide)) (a_cons (e_dict0) (a_cons (e_str [97, 98] (by decide +kernel)) (a_cons (e_tup (a_cons (e_str [97] (by decide +kernel)) (a_nil) (star_cons rfl)) (by decide)) (a_cons (e_tup (a_cons (e_str [97] (by decide +kernel)) (a_cons (e_int) (a_nil) (star_cons rfl)) (star_cons rfl)) (by decide)) (a_cons (e_tup (a_cons (e_lst (a_nil) (by decide)) (a_cons (e_str [97] (by decide +kernel)) (a_nil) (star_cons rfl)) (star_cons rfl)) (by decide)) (a_cons (e_tup (a_cons (e_str [97] (by decide +kernel)) (a_cons (e_dict0) (a_nil) (star_cons rfl)) (star_cons rfl)) (by decide)) (a_cons (e_tup (a_cons (e_tup (a_cons (e_str [97] (by decide +kernel)) (a_cons (e_str [98] (by decide +kernel)) (a_nil) (star_cons rfl)) (star_cons rfl)) (by decide)) (a_nil) (star_cons rfl)) (by decide)) (a_nil) (star_cons rfl)) (star_cons rfl)) (star_cons rfl)) (star_cons rfl)) (star_cons rfl)) (star_cons rfl)) (star_cons rfl)) (star_cons rfl)) (star_cons rfl)) (star_cons rfl)) (star_cons rfl)) (star_cons rfl)) (star_cons rfl)) (by decide)) (mx_nil) rfl) rfl)) (ss_cons (s_for (B.ps rfl) B.calm (i_range1 (gl_of B (by decide +kernel)).1 T.n_range (a_cons (e_int) (a_nil) (star_cons rfl)) rfl) (c_name B (by decide +kernel)) (ss_cons (s_setB B (by decide +kernel) (e_ty B (b_tuple B) (by decide +kernel) T.n_tuple rfl (a_cons (c_call B (g__law_names T) (by decide) (by decide +kernel) T.m__law_names T.k__law_names T.b__law_names (a_cons (e_var B 0 (by decide +kernel)) (a_cons (e_op (o_add B dun0) (e_int) (c_call B (g__law_draw T) (by decide) (by decide +kernel) T.m__law_draw T.k__law_draw T.b__law_draw (a_cons (e_var B 0 (by decide +kernel)) (a_cons (e_int) (a_nil) (star_cons rfl)) (star_cons rfl)) rfl rfl)) (a_nil) (star_cons rfl)) (star_cons rfl)) rfl rfl) (a_nil) (star_cons rfl)) rfl) rfl) (ss_cons (s_setB B (by decide +kernel) (c_call B (g__law_tied T) (by decide) (by decide +kernel) T.m__law_tied T.k__law_tied T.b__law_tied (a_cons (e_var B 4 (by decide +kernel)) (a_cons (c_call B (g__law_links T) (by decide) (by decide +kernel) T.m__law_links T.k__law_links T.b__law_links (a_cons (e_var B 0 (by decide +kernel)) (a_cons (e_bi B (b_len0 B) (by decide +kernel) T.n_len rfl (a_cons (e_var B 4 (by decide +kernel)) (a_nil) (star_cons rfl)) rfl) (a_nil) (star_cons rfl)) (star_cons rfl)) rfl rfl) (a_nil) (star_cons rfl)) (star_cons rfl)) rfl rfl) rfl) (ss_cons (s_meth B (by decide +kernel) PySem.F.slot_list_append PySem.F.type_list_append mp_append (a_cons (e_tup (a_cons (c_mkV B (c := "Rule") T.mk_Rule (g_Rule___init__ T) (by decide) (by decide +kernel) T.m_Rule T.b_Rule___init__ (a_cons (e_var B 4 (by decide +kernel)) (a_cons (e_var B 5 (by decide +kernel)) (a_nil) (star_cons rfl)) (star_cons rfl)) rfl rfl rfl) (a_cons (e_var B 4 (by decide +kernel)) (a_cons (e_var B 5 (by decide +kernel)) (a_nil) (star_cons rfl)) (star_cons rfl)) (star_cons rfl)) (by decide)) (a_nil) (star_cons rfl)) rfl (app_grows (.inl rfl)) rfl rfl rfl rfl) (ss_cons (s_par2 (fl := [false, false]) B rfl (by decide +kernel) (by decide +kernel) (by decide) (by decide +kernel) (by decide +kernel) (by decide +kernel) (by decide +kernel) (mx_val (e_ix B (e_var B 4 (by decide +kernel)) (c_call B (g__law_draw T) (by decide) (by decide +kernel) T.m__law_draw T.k__law_draw T.b__law_draw (a_cons (e_var B 0 (by decide +kernel)) (a_cons (e_bi B (b_len0 B) (by decide +kernel) T.n_len rfl (a_cons (e_var B 4 (by decide +kernel)) (a_nil) (star_cons rfl)) rfl) (a_nil) (star_cons rfl)) (star_cons rfl)) rfl rfl)) (mx_val (e_ix B (e_var B 4 (by decide +kernel)) (c_call B (g__law_draw T) (by decide) (by decide +kernel) T.m__law_draw T.k__law_draw T.b__law_draw (a_cons (e_var B 0 (by decide +kernel)) (a_cons (e_bi B (b_len0 B) (by decide +kernel) T.n_len rfl (a_cons (e_var B 4 (by decide +kernel)) (a_nil) (star_cons rfl)) rfl) (a_nil) (star_cons rfl)) (star_cons rfl)) rfl rfl)) (mx_nil) rfl) rfl)) (ss_cons (s_setB B (by decide +kernel) (e_op (o_add B dun0) (e_var B 2 (by decide +kernel)) (e_lst (a_cons (e_tup (a_cons (e_var B 6 (by decide +kernel)) (a_cons (e_var B 7 (by decide +kernel)) (a_nil) (star_cons rfl)) (star_cons rfl)) (by decide)) (a_cons (e_tup (a_cons (e_var B 7 (by decide +kernel)) (a_cons (e_var B 6 (by decide +kernel)) (a_nil) (star_cons rfl)) (star_cons rfl)) (by decide)) (a_cons (e_lst (a_cons (e_var B 6 (by decide +kernel)) (a_cons (e_var B 7 (by decide +kernel)) (a_nil) (star_cons rfl)) (star_cons rfl)) (by decide)) (a_cons (e_tup (a_cons (e_var B 6 (by decide +kernel)) (a_cons (e_var B 7 (by decide +kernel)) (a_cons (e_var B 6 (by decide +kernel)) (a_nil) (star_cons rfl)) (star_cons rfl)) (star_cons rfl)) (by decide)) (a_cons (e_var B 6 (by decide +kernel)) (a_cons (e_op (o_add B dun0) (e_var B 6 (by decide +kernel)) (e_var B 7 (by decide +kernel))) (a_cons (e_tup (a_cons (e_var B 6 (by decide +kernel)) (a_cons (e_op (o_add B dun0) (e_var B 7 (by decide +kernel)) (e_str [113] (by decide +kernel))) (a_nil) (star_cons rfl)) (star_cons rfl)) (by decide)) (a_nil) (star_cons rfl)) (star_cons rfl)) (star_cons rfl)) (star_cons rfl)) (star_cons rfl)) (star_cons rfl)) (star_cons rfl)) (by decide))) rfl) (ss_cons (s_setB B (by decide +kernel) (e_op (o_add B dun0) (e_op (o_add B dun0) (e_op (o_add B dun0) (e_var B 2 (by decide +kernel)) (e_ty B (b_list B) (by decide +kernel) T.n_list rfl (a_cons (e_var B 5 (by decide +kernel)) (a_nil) (star_cons rfl)) rfl)) (c_lc B [("link", 8)] (PI.up (i_any B.RK.symm (e_var B 5 (by decide +kernel)))) (by decide +kernel) (fun _ _ _ _ _ B => c_name B (by decide +kernel)) (fun _ _ _ _ _ B => pts0) (fun _ _ _ _ _ B => e_tup (a_cons (e_ix B (e_var B 8 (by decide +kernel)) (e_int)) (a_cons (e_ix B (e_var B 8 (by decide +kernel)) (e_int)) (a_nil) (star_cons rfl)) (star_cons rfl)) (by decide)) (by decide +kernel) (fun _ => rfl))) (e_lst (a_cons (e_tup (a_cons (e_var B 6 (by decide +kernel)) (a_cons (e_non) (a_nil) (star_cons rfl)) (star_cons rfl)) (by decide)) (a_cons (e_tup (a_cons (e_var B 5 (by decide +kernel)) (a_cons (e_var B 6 (by decide +kernel)) (a_nil) (star_cons rfl)) (star_cons rfl)) (by decide)) (a_nil) (star_cons rfl)) (star_cons rfl)) (by decide))) rfl) (ss_nil))))))) (fun _ => rfl)) (ss_cons (s_for (B.ps rfl) B.calm (i_any B.RK.symm (e_op (o_add B dun0) (e_var B 1 (by decide +kernel)) (e_var B 1 (by decide +kernel)))) (c_tup B (by decide +kernel)) (ss_cons (s_for (B.ps rfl) B.calm (i_any B.RK.symm (e_var B 2 (by decide +kernel))) (c_name B (by decide +kernel)) (ss_cons (s_if (t_not (t_val (c_call B (g__law_says T) (by decide) (by decide +kernel) T.m__law_says T.k__law_says T.b__law_says (a_cons (e_var B 9 (by decide +kernel)) (a_cons (e_var B 10 (by decide +kernel)) (a_cons (e_and (c_call B (g__law_is_pair T) (by decide) (by decide +kernel) T.m__law_is_pair T.k__law_is_pair T.b__law_is_pair (a_cons (e_var B 10 (by decide +kernel)) (a_cons (e_var B 4 (by decide +kernel)) (a_nil) (star_cons rfl)) (star_cons rfl)) rfl rfl) (pe_one (c_call B (g__law_has T) (by decide) (by decide +kernel) T.m__law_has T.k__law_has T.b__law_has (a_cons (e_var B 5 (by decide +kernel)) (a_cons (e_var B 10 (by decide +kernel)) (a_nil) (star_cons rfl)) (star_cons rfl)) rfl rfl))) (a_nil) (star_cons rfl)) (star_cons rfl)) (star_cons rfl)) rfl rfl))) (ss_cons (c_ret B fun B => e_bl) (ss_nil)) (ss_nil)) (ss_nil)) (fun _ => rfl)) (ss_cons (s_for (B.ps rfl) B.calm (i_any B.RK.symm (e_sl01 B (e_var B 5 (by decide +kernel)) (e_int))) (c_name B (by decide +kernel)) (ss_cons (s_if ((w_or (t_not (t_val (c_call B (g__law_says T) (by decide) (by decide +kernel) T.m__law_says T.k__law_says T.b__law_says (a_cons (e_op (q := false) (oq_sub (d_binT B (by decide) (hd___sub__ T))) (e_var B 9 (by decide +kernel)) (e_var B 11 (by decide +kernel))) (a_cons (e_tup (a_cons (e_ix B (e_var B 11 (by decide +kernel)) (e_int)) (a_cons (e_ix B (e_var B 11 (by decide +kernel)) (e_int)) (a_nil) (star_cons rfl)) (star_cons rfl)) (by decide)) (a_cons (e_bl) (a_nil) (star_cons rfl)) (star_cons rfl)) (star_cons rfl)) rfl rfl))) (w_or1 (t_not (t_val (c_call B (g__law_says T) (by decide) (by decide +kernel) T.m__law_says T.k__law_says T.b__law_says (a_cons (e_var B 9 (by decide +kernel)) (a_cons (e_var B 11 (by decide +kernel)) (a_cons (e_bl) (a_nil) (star_cons rfl)) (star_cons rfl)) (star_cons rfl)) rfl rfl))))).pt) (ss_cons (c_ret B fun B => e_bl) (ss_nil)) (ss_nil)) (ss_nil)) (fun _ => rfl)) (ss_nil))) (fun _ => rfl)) (ss_cons (c_ret B fun B => e_bl) (ss_nil))))
theorem g__law_right {P : Program} {w : World} {K : PySem.W.Frag} {mg : Str → Option Value} {base : Heap} (T : Tx K mg) : FnG P w K mg base 10 T.a__law_right T.fd__law_right ["purse"] (spF K T.ca F__law_right 1) :=
  fn_ok (N := ["purse", "cases", "things", "turn", "names", "links", "one", "two", "link", "here", "thing", "pair"]) (k := 9) T.F__law_right ⟨rfl, rfl, rfl, by decide +kernel, rfl, by decide +kernel, by decide +kernel⟩ rfl [1] fun X R e1 e2 e3 e4 e5 B => by
    subst e1 e2 e3 e4 e5
    exact b__law_right T B
abbrev S_law : Sx := Sx.ofDef ["script", "k"] (defScope st_law) []
theorem b_law {X : Cx} {R : Rd0} (T : Tx X.K X.mg) (B : Bd S_law 10 T.ca X R) : PSs X (defBody st_law) (tMs R ir_law) :=
  ss_cons (s_for (B.ps rfl) B.calm (i_range1 (gl_of B (by decide +kernel)).1 T.n_range (a_cons (e_bi B (b_max2 B) (by decide +kernel) T.n_max rfl (a_cons (e_int) (a_cons (e_bi B (b_min2 B) (by decide +kernel) T.n_min rfl (a_cons (e_bi B (b_len0 B) (by decide +kernel) T.n_len rfl (a_cons (e_var B 0 (by decide +kernel)) (a_nil) (star_cons rfl)) rfl) (a_cons (e_int) (a_nil) (star_cons rfl)) (star_cons rfl)) rfl) (a_nil) (star_cons rfl)) (star_cons rfl)) rfl) (a_nil) (star_cons rfl)) rfl) (c_name B (by decide +kernel)) (ss_cons (s_if (t_not (t_val (c_call B (g__law_right T) (by decide) (by decide +kernel) T.m__law_right T.k__law_right T.b__law_right (a_cons (c_call B (g__law_purse T) (by decide) (by decide +kernel) T.m__law_purse T.k__law_purse T.b__law_purse (a_cons (e_var B 0 (by decide +kernel)) (a_cons (e_var B 1 (by decide +kernel)) (a_nil) (star_cons rfl)) (star_cons rfl)) rfl rfl) (a_nil) (star_cons rfl)) rfl rfl))) (ss_cons (c_ret B fun B => e_bl) (ss_nil)) (ss_nil)) (ss_nil)) (fun _ => rfl)) (ss_cons (c_ret B fun B => e_bl) (ss_nil))
theorem g_law {P : Program} {w : World} {K : PySem.W.Frag} {mg : Str → Option Value} {base : Heap} (T : Tx K mg) : FnG P w K mg base 11 T.a_law T.fd_law ["script"] (spF K T.ca F_law 1) :=
  fn_ok (N := ["script", "k"]) (k := 10) T.F_law ⟨rfl, rfl, rfl, by decide +kernel, rfl, by decide +kernel, by decide +kernel⟩ rfl [] fun X R e1 e2 e3 e4 e5 B => by
    subst e1 e2 e3 e4 e5
    exact b_law T B
end Pk

set_option Elab.async false
set_option linter.all false
set_option autoImplicit false
set_option maxRecDepth 100000
set_option maxHeartbeats 4000000
namespace Pk
open PySem PySem.Spec PyProof.Rows L2
theorem all_mk {P : Program} {w : World} {K : PySem.W.Frag} {h : Heap} {mg : Str → Option Value} {fa : Addr} (X : K.In h) (G : h.Ns mainGlobals mg) (hfa : mg "law" = some (.ref fa)) {C_Rule : Addr} {C_InvalidKinds : Addr} {C_InvalidTies : Addr} {C_WrongValue : Addr} {nm_InvalidKinds qn_InvalidKinds : Str} {Nn_InvalidKinds : Addr} {bs_InvalidKinds : List Value} {sn_InvalidKinds : List Str} {sb_InvalidKinds : List Value} {ab_InvalidKinds : Bool} {co_InvalidKinds : Option Bool} {dd_InvalidKinds : Option Addr} {m0_InvalidKinds m1_InvalidKinds m2_InvalidKinds m3_InvalidKinds m5_InvalidKinds : Option Value} {a_InvalidKinds___init__ : Addr} {od_InvalidKinds___init__ an_InvalidKinds___init__ : Option Addr} {sl_InvalidKinds___init__ : Array (Option Value)} {oc_InvalidKinds___init__ kV_InvalidKinds___init__ dc_InvalidKinds___init__ pm_InvalidKinds___init__ cd_InvalidKinds___init__ ct_InvalidKinds___init__ : Value} {nm_InvalidTies qn_InvalidTies : Str} {Nn_InvalidTies : Addr} {bs_InvalidTies : List Value} {sn_InvalidTies : List Str} {sb_InvalidTies : List Value} {ab_InvalidTies : Bool} {co_InvalidTies : Option Bool} {dd_InvalidTies : Option Addr} {m0_InvalidTies m1_InvalidTies m2_InvalidTies m3_InvalidTies m5_InvalidTies : Option Value} {a_InvalidTies___init__ : Addr} {od_InvalidTies___init__ an_InvalidTies___init__ : Option Addr} {sl_InvalidTies___init__ : Array (Option Value)} {oc_InvalidTies___init__ kV_InvalidTies___init__ dc_InvalidTies___init__ pm_InvalidTies___init__ cd_InvalidTies___init__ ct_InvalidTies___init__ : Value} {a__law_purse : Addr} {od__law_purse an__law_purse : Option Addr} {sl__law_purse : Array (Option Value)} {oc__law_purse kV__law_purse dc__law_purse pm__law_purse cd__law_purse ct__law_purse : Value} {a_is_name : Addr} {od_is_name an_is_name : Option Addr} {sl_is_name : Array (Option Value)} {oc_is_name kV_is_name dc_is_name pm_is_name cd_is_name ct_is_name : Value} {a_wrong_kind : Addr} {od_wrong_kind an_wrong_kind : Option Addr} {sl_wrong_kind : Array (Option Value)} {oc_wrong_kind kV_wrong_kind dc_wrong_kind pm_wrong_kind cd_wrong_kind ct_wrong_kind : Value} {a_check_new_kinds : Addr} {od_check_new_kinds an_check_new_kinds : Option Addr} {sl_check_new_kinds : Array (Option Value)} {oc_check_new_kinds kV_check_new_kinds dc_check_new_kinds pm_check_new_kinds cd_check_new_kinds ct_check_new_kinds : Value} {a_is_tie : Addr} {od_is_tie an_is_tie : Option Addr} {sl_is_tie : Array (Option Value)} {oc_is_tie kV_is_tie dc_is_tie pm_is_tie cd_is_tie ct_is_tie : Value} {a_is_told : Addr} {od_is_told an_is_told : Option Addr} {sl_is_told : Array (Option Value)} {oc_is_told kV_is_told dc_is_told pm_is_told cd_is_told ct_is_told : Value} {a_wrong_tie : Addr} {od_wrong_tie an_wrong_tie : Option Addr} {sl_wrong_tie : Array (Option Value)} {oc_wrong_tie kV_wrong_tie dc_wrong_tie pm_wrong_tie cd_wrong_tie ct_wrong_tie : Value} {a_check_ties : Addr} {od_check_ties an_check_ties : Option Addr} {sl_check_ties : Array (Option Value)} {oc_check_ties kV_check_ties dc_check_ties pm_check_ties cd_check_ties ct_check_ties : Value} {a_lump_around : Addr} {od_lump_around an_lump_around : Option Addr} {sl_lump_around : Array (Option Value)} {oc_lump_around kV_lump_around dc_lump_around pm_lump_around cd_lump_around ct_lump_around : Value} {a_near_outside : Addr} {od_near_outside an_near_outside : Option Addr} {sl_near_outside : Array (Option Value)} {oc_near_outside kV_near_outside dc_near_outside pm_near_outside cd_near_outside ct_near_outside : Value} {a_cut_of : Addr} {od_cut_of an_cut_of : Option Addr} {sl_cut_of : Array (Option Value)} {oc_cut_of kV_cut_of dc_cut_of pm_cut_of cd_cut_of ct_cut_of : Value} {a_subsets : Addr} {od_subsets an_subsets : Option Addr} {sl_subsets : Array (Option Value)} {oc_subsets kV_subsets dc_subsets pm_subsets cd_subsets ct_subsets : Value} {a_cuts_of : Addr} {od_cuts_of an_cuts_of : Option Addr} {sl_cuts_of : Array (Option Value)} {oc_cuts_of kV_cuts_of dc_cuts_of pm_cuts_of cd_cuts_of ct_cuts_of : Value} {a_place_of : Addr} {od_place_of an_place_of : Option Addr} {sl_place_of : Array (Option Value)} {oc_place_of kV_place_of dc_place_of pm_place_of cd_place_of ct_place_of : Value} {a_Rule___init__ : Addr} {od_Rule___init__ an_Rule___init__ : Option Addr} {sl_Rule___init__ : Array (Option Value)} {oc_Rule___init__ kV_Rule___init__ dc_Rule___init__ pm_Rule___init__ cd_Rule___init__ ct_Rule___init__ : Value} {dt_Rule___init__ : Addr} {a_Rule___sub__ : Addr} {od_Rule___sub__ an_Rule___sub__ : Option Addr} {sl_Rule___sub__ : Array (Option Value)} {oc_Rule___sub__ kV_Rule___sub__ dc_Rule___sub__ pm_Rule___sub__ cd_Rule___sub__ ct_Rule___sub__ : Value} {a__law_draw : Addr} {od__law_draw an__law_draw : Option Addr} {sl__law_draw : Array (Option Value)} {oc__law_draw kV__law_draw dc__law_draw pm__law_draw cd__law_draw ct__law_draw : Value} {a__law_has : Addr} {od__law_has an__law_has : Option Addr} {sl__law_has : Array (Option Value)} {oc__law_has kV__law_has dc__law_has pm__law_has cd__law_has ct__law_has : Value} {a__law_is_pair : Addr} {od__law_is_pair an__law_is_pair : Option Addr} {sl__law_is_pair : Array (Option Value)} {oc__law_is_pair kV__law_is_pair dc__law_is_pair pm__law_is_pair cd__law_is_pair ct__law_is_pair : Value} {a__law_links : Addr} {od__law_links an__law_links : Option Addr} {sl__law_links : Array (Option Value)} {oc__law_links kV__law_links dc__law_links pm__law_links cd__law_links ct__law_links : Value} {a__law_names : Addr} {od__law_names an__law_names : Option Addr} {sl__law_names : Array (Option Value)} {oc__law_names kV__law_names dc__law_names pm__law_names cd__law_names ct__law_names : Value} {a_Rule___contains__ : Addr} {od_Rule___contains__ an_Rule___contains__ : Option Addr} {sl_Rule___contains__ : Array (Option Value)} {oc_Rule___contains__ kV_Rule___contains__ dc_Rule___contains__ pm_Rule___contains__ cd_Rule___contains__ ct_Rule___contains__ : Value} {a_Rule___add__ : Addr} {od_Rule___add__ an_Rule___add__ : Option Addr} {sl_Rule___add__ : Array (Option Value)} {oc_Rule___add__ kV_Rule___add__ dc_Rule___add__ pm_Rule___add__ cd_Rule___add__ ct_Rule___add__ : Value} {a_Rule___len__ : Addr} {od_Rule___len__ an_Rule___len__ : Option Addr} {sl_Rule___len__ : Array (Option Value)} {oc_Rule___len__ kV_Rule___len__ dc_Rule___len__ pm_Rule___len__ cd_Rule___len__ ct_Rule___len__ : Value} {a_Rule___bool__ : Addr} {od_Rule___bool__ an_Rule___bool__ : Option Addr} {sl_Rule___bool__ : Array (Option Value)} {oc_Rule___bool__ kV_Rule___bool__ dc_Rule___bool__ pm_Rule___bool__ cd_Rule___bool__ ct_Rule___bool__ : Value} {a_Rule___eq__ : Addr} {od_Rule___eq__ an_Rule___eq__ : Option Addr} {sl_Rule___eq__ : Array (Option Value)} {oc_Rule___eq__ kV_Rule___eq__ dc_Rule___eq__ pm_Rule___eq__ cd_Rule___eq__ ct_Rule___eq__ : Value} {a_Rule___str__ : Addr} {od_Rule___str__ an_Rule___str__ : Option Addr} {sl_Rule___str__ : Array (Option Value)} {oc_Rule___str__ kV_Rule___str__ dc_Rule___str__ pm_Rule___str__ cd_Rule___str__ ct_Rule___str__ : Value} {a__law_says : Addr} {od__law_says an__law_says : Option Addr} {sl__law_says : Array (Option Value)} {oc__law_says kV__law_says dc__law_says pm__law_says cd__law_says ct__law_says : Value} {a__law_tied : Addr} {od__law_tied an__law_tied : Option Addr} {sl__law_tied : Array (Option Value)} {oc__law_tied kV__law_tied dc__law_tied pm__law_tied cd__law_tied ct__law_tied : Value} {a__law_right : Addr} {od__law_right an__law_right : Option Addr} {sl__law_right : Array (Option Value)} {oc__law_right kV__law_right dc__law_right pm__law_right cd__law_right ct__law_right : Value} {a_law : Addr} {od_law an_law : Option Addr} {sl_law : Array (Option Value)} {oc_law kV_law dc_law pm_law cd_law ct_law : Value} {fo_Rule___add__ ro_Rule___add__ : Option Value} {fo_Rule___sub__ ro_Rule___sub__ : Option Value} {u_MOST_KINDS : Value} {u_LETTERS : Value} {u_DIGITS : Value} {u_LONGEST_NAME : Value} {do1_Rule___init__ : Obj} {dn_Rule___init__ : Nat} {t_Rule___init__ : Addr} {do2_Rule___init__ : Obj} {dn2_Rule___init__ : Nat}
    (a_Rule : PySem.W.nsIn K mainGlobals "Rule" = some (some (.ref C_Rule)))
    (pg_Rule : PySem.W.plainGet K C_Rule Str.empty = true)
    (hd_Rule : PySem.W.hasDictIn K C_Rule = true)
    (po_Rule : PySem.W.plainOver K C_Rule = true)
    (sa_Rule : PySem.W.findIn K (.ref C_Rule) "__setattr__" = some (some (.builtin "object.__setattr__")))
    (a_InvalidKinds : PySem.W.nsIn K mainGlobals "InvalidKinds" = some (some (.ref C_InvalidKinds)))
    (a_InvalidTies : PySem.W.nsIn K mainGlobals "InvalidTies" = some (some (.ref C_InvalidTies)))
    (a_WrongValue : PySem.W.nsIn K mainGlobals "WrongValue" = some (some (.ref C_WrongValue)))
    (is_InvalidKinds : PySem.W.isClsIn K C_InvalidKinds = true)
    (ty_InvalidKinds : PySem.W.typeIn K (.ref C_InvalidKinds) = some (.type "type"))
    (is_InvalidTies : PySem.W.isClsIn K C_InvalidTies = true)
    (ty_InvalidTies : PySem.W.typeIn K (.ref C_InvalidTies) = some (.type "type"))
    (is_WrongValue : PySem.W.isClsIn K C_WrongValue = true)
    (ty_WrongValue : PySem.W.typeIn K (.ref C_WrongValue) = some (.type "type"))
    (x_InvalidKinds : K.lookup C_InvalidKinds = some (excClassObj nm_InvalidKinds qn_InvalidKinds C_InvalidKinds Nn_InvalidKinds bs_InvalidKinds [.ref C_WrongValue, .type "ValueError", .type "Exception", .type "BaseException", .type "object"] true sn_InvalidKinds sb_InvalidKinds ab_InvalidKinds co_InvalidKinds dd_InvalidKinds m0_InvalidKinds m1_InvalidKinds m2_InvalidKinds m3_InvalidKinds m5_InvalidKinds "ValueError.__new__"))
    (sa_InvalidKinds : PySem.W.findIn K (.ref C_InvalidKinds) "__setattr__" = some (some (.builtin "object.__setattr__")))
    (eb_InvalidKinds : PySem.W.subIn K (.ref C_InvalidKinds) (.type "BaseException") = some true)
    (kc_InvalidKinds : PySem.W.keepIn K (.ref C_InvalidKinds) = true)
    (no_InvalidKinds_index : PySem.W.findIn K (.ref C_InvalidKinds) (Str.ofString "index") = some none)
    (fi_InvalidKinds___init__ : PySem.W.findIn K (.ref C_InvalidKinds) "__init__" = some (some (.ref a_InvalidKinds___init__)))
    (ti_InvalidKinds___init__ : PySem.W.typeIn K (.ref a_InvalidKinds___init__) = some (.type "function"))
    (l_InvalidKinds___init__ : K.lookup a_InvalidKinds___init__ = some ⟨oc_InvalidKinds___init__, od_InvalidKinds___init__, .func (PySem.W.fnOf "__init__" "InvalidKinds.__init__" (defArgs st_InvalidKinds___init__) (defBody st_InvalidKinds___init__) (defScope st_InvalidKinds___init__) .none kV_InvalidKinds___init__ dc_InvalidKinds___init__ pm_InvalidKinds___init__ an_InvalidKinds___init__ cd_InvalidKinds___init__ ct_InvalidKinds___init__), sl_InvalidKinds___init__⟩)
    (c_InvalidKinds___init__ : PySem.W.codeIn K cd_InvalidKinds___init__ "InvalidKinds.__init__" = true)
    (k_InvalidKinds___init__ : PySem.W.keepIn K (.ref a_InvalidKinds___init__) = true)
    (x_InvalidTies : K.lookup C_InvalidTies = some (excClassObj nm_InvalidTies qn_InvalidTies C_InvalidTies Nn_InvalidTies bs_InvalidTies [.ref C_WrongValue, .type "ValueError", .type "Exception", .type "BaseException", .type "object"] true sn_InvalidTies sb_InvalidTies ab_InvalidTies co_InvalidTies dd_InvalidTies m0_InvalidTies m1_InvalidTies m2_InvalidTies m3_InvalidTies m5_InvalidTies "ValueError.__new__"))
    (sa_InvalidTies : PySem.W.findIn K (.ref C_InvalidTies) "__setattr__" = some (some (.builtin "object.__setattr__")))
    (eb_InvalidTies : PySem.W.subIn K (.ref C_InvalidTies) (.type "BaseException") = some true)
    (kc_InvalidTies : PySem.W.keepIn K (.ref C_InvalidTies) = true)
    (no_InvalidTies_index : PySem.W.findIn K (.ref C_InvalidTies) (Str.ofString "index") = some none)
    (fi_InvalidTies___init__ : PySem.W.findIn K (.ref C_InvalidTies) "__init__" = some (some (.ref a_InvalidTies___init__)))
    (ti_InvalidTies___init__ : PySem.W.typeIn K (.ref a_InvalidTies___init__) = some (.type "function"))
    (l_InvalidTies___init__ : K.lookup a_InvalidTies___init__ = some ⟨oc_InvalidTies___init__, od_InvalidTies___init__, .func (PySem.W.fnOf "__init__" "InvalidTies.__init__" (defArgs st_InvalidTies___init__) (defBody st_InvalidTies___init__) (defScope st_InvalidTies___init__) .none kV_InvalidTies___init__ dc_InvalidTies___init__ pm_InvalidTies___init__ an_InvalidTies___init__ cd_InvalidTies___init__ ct_InvalidTies___init__), sl_InvalidTies___init__⟩)
    (c_InvalidTies___init__ : PySem.W.codeIn K cd_InvalidTies___init__ "InvalidTies.__init__" = true)
    (k_InvalidTies___init__ : PySem.W.keepIn K (.ref a_InvalidTies___init__) = true)
    (A__law_purse : PySem.W.nsIn K mainGlobals "_law_purse" = some (some (.ref a__law_purse)))
    (l__law_purse : K.lookup a__law_purse = some ⟨oc__law_purse, od__law_purse, .func (PySem.W.fnOf "_law_purse" "_law_purse" (defArgs st__law_purse) (defBody st__law_purse) (defScope st__law_purse) .none kV__law_purse dc__law_purse pm__law_purse an__law_purse cd__law_purse ct__law_purse), sl__law_purse⟩)
    (c__law_purse : PySem.W.codeIn K cd__law_purse "_law_purse" = true)
    (k__law_purse : PySem.W.keepIn K (.ref a__law_purse) = true)
    (A_is_name : PySem.W.nsIn K mainGlobals "is_name" = some (some (.ref a_is_name)))
    (l_is_name : K.lookup a_is_name = some ⟨oc_is_name, od_is_name, .func (PySem.W.fnOf "is_name" "is_name" (defArgs st_is_name) (defBody st_is_name) (defScope st_is_name) .none kV_is_name dc_is_name pm_is_name an_is_name cd_is_name ct_is_name), sl_is_name⟩)
    (c_is_name : PySem.W.codeIn K cd_is_name "is_name" = true)
    (k_is_name : PySem.W.keepIn K (.ref a_is_name) = true)
    (A_wrong_kind : PySem.W.nsIn K mainGlobals "wrong_kind" = some (some (.ref a_wrong_kind)))
    (l_wrong_kind : K.lookup a_wrong_kind = some ⟨oc_wrong_kind, od_wrong_kind, .func (PySem.W.fnOf "wrong_kind" "wrong_kind" (defArgs st_wrong_kind) (defBody st_wrong_kind) (defScope st_wrong_kind) .none kV_wrong_kind dc_wrong_kind pm_wrong_kind an_wrong_kind cd_wrong_kind ct_wrong_kind), sl_wrong_kind⟩)
    (c_wrong_kind : PySem.W.codeIn K cd_wrong_kind "wrong_kind" = true)
    (k_wrong_kind : PySem.W.keepIn K (.ref a_wrong_kind) = true)
    (A_check_new_kinds : PySem.W.nsIn K mainGlobals "check_new_kinds" = some (some (.ref a_check_new_kinds)))
    (l_check_new_kinds : K.lookup a_check_new_kinds = some ⟨oc_check_new_kinds, od_check_new_kinds, .func (PySem.W.fnOf "check_new_kinds" "check_new_kinds" (defArgs st_check_new_kinds) (defBody st_check_new_kinds) (defScope st_check_new_kinds) .none kV_check_new_kinds dc_check_new_kinds pm_check_new_kinds an_check_new_kinds cd_check_new_kinds ct_check_new_kinds), sl_check_new_kinds⟩)
    (c_check_new_kinds : PySem.W.codeIn K cd_check_new_kinds "check_new_kinds" = true)
    (k_check_new_kinds : PySem.W.keepIn K (.ref a_check_new_kinds) = true)
    (A_is_tie : PySem.W.nsIn K mainGlobals "is_tie" = some (some (.ref a_is_tie)))
    (l_is_tie : K.lookup a_is_tie = some ⟨oc_is_tie, od_is_tie, .func (PySem.W.fnOf "is_tie" "is_tie" (defArgs st_is_tie) (defBody st_is_tie) (defScope st_is_tie) .none kV_is_tie dc_is_tie pm_is_tie an_is_tie cd_is_tie ct_is_tie), sl_is_tie⟩)
    (c_is_tie : PySem.W.codeIn K cd_is_tie "is_tie" = true)
    (k_is_tie : PySem.W.keepIn K (.ref a_is_tie) = true)
    (A_is_told : PySem.W.nsIn K mainGlobals "is_told" = some (some (.ref a_is_told)))
    (l_is_told : K.lookup a_is_told = some ⟨oc_is_told, od_is_told, .func (PySem.W.fnOf "is_told" "is_told" (defArgs st_is_told) (defBody st_is_told) (defScope st_is_told) .none kV_is_told dc_is_told pm_is_told an_is_told cd_is_told ct_is_told), sl_is_told⟩)
    (c_is_told : PySem.W.codeIn K cd_is_told "is_told" = true)
    (k_is_told : PySem.W.keepIn K (.ref a_is_told) = true)
    (A_wrong_tie : PySem.W.nsIn K mainGlobals "wrong_tie" = some (some (.ref a_wrong_tie)))
    (l_wrong_tie : K.lookup a_wrong_tie = some ⟨oc_wrong_tie, od_wrong_tie, .func (PySem.W.fnOf "wrong_tie" "wrong_tie" (defArgs st_wrong_tie) (defBody st_wrong_tie) (defScope st_wrong_tie) .none kV_wrong_tie dc_wrong_tie pm_wrong_tie an_wrong_tie cd_wrong_tie ct_wrong_tie), sl_wrong_tie⟩)
    (c_wrong_tie : PySem.W.codeIn K cd_wrong_tie "wrong_tie" = true)
    (k_wrong_tie : PySem.W.keepIn K (.ref a_wrong_tie) = true)
    (A_check_ties : PySem.W.nsIn K mainGlobals "check_ties" = some (some (.ref a_check_ties)))
    (l_check_ties : K.lookup a_check_ties = some ⟨oc_check_ties, od_check_ties, .func (PySem.W.fnOf "check_ties" "check_ties" (defArgs st_check_ties) (defBody st_check_ties) (defScope st_check_ties) .none kV_check_ties dc_check_ties pm_check_ties an_check_ties cd_check_ties ct_check_ties), sl_check_ties⟩)
    (c_check_ties : PySem.W.codeIn K cd_check_ties "check_ties" = true)
    (k_check_ties : PySem.W.keepIn K (.ref a_check_ties) = true)
    (A_lump_around : PySem.W.nsIn K mainGlobals "lump_around" = some (some (.ref a_lump_around)))
    (l_lump_around : K.lookup a_lump_around = some ⟨oc_lump_around, od_lump_around, .func (PySem.W.fnOf "lump_around" "lump_around" (defArgs st_lump_around) (defBody st_lump_around) (defScope st_lump_around) .none kV_lump_around dc_lump_around pm_lump_around an_lump_around cd_lump_around ct_lump_around), sl_lump_around⟩)
    (c_lump_around : PySem.W.codeIn K cd_lump_around "lump_around" = true)
    (k_lump_around : PySem.W.keepIn K (.ref a_lump_around) = true)
    (A_near_outside : PySem.W.nsIn K mainGlobals "near_outside" = some (some (.ref a_near_outside)))
    (l_near_outside : K.lookup a_near_outside = some ⟨oc_near_outside, od_near_outside, .func (PySem.W.fnOf "near_outside" "near_outside" (defArgs st_near_outside) (defBody st_near_outside) (defScope st_near_outside) .none kV_near_outside dc_near_outside pm_near_outside an_near_outside cd_near_outside ct_near_outside), sl_near_outside⟩)
    (c_near_outside : PySem.W.codeIn K cd_near_outside "near_outside" = true)
    (k_near_outside : PySem.W.keepIn K (.ref a_near_outside) = true)
    (A_cut_of : PySem.W.nsIn K mainGlobals "cut_of" = some (some (.ref a_cut_of)))
    (l_cut_of : K.lookup a_cut_of = some ⟨oc_cut_of, od_cut_of, .func (PySem.W.fnOf "cut_of" "cut_of" (defArgs st_cut_of) (defBody st_cut_of) (defScope st_cut_of) .none kV_cut_of dc_cut_of pm_cut_of an_cut_of cd_cut_of ct_cut_of), sl_cut_of⟩)
    (c_cut_of : PySem.W.codeIn K cd_cut_of "cut_of" = true)
    (k_cut_of : PySem.W.keepIn K (.ref a_cut_of) = true)
    (A_subsets : PySem.W.nsIn K mainGlobals "subsets" = some (some (.ref a_subsets)))
    (l_subsets : K.lookup a_subsets = some ⟨oc_subsets, od_subsets, .func (PySem.W.fnOf "subsets" "subsets" (defArgs st_subsets) (defBody st_subsets) (defScope st_subsets) .none kV_subsets dc_subsets pm_subsets an_subsets cd_subsets ct_subsets), sl_subsets⟩)
    (c_subsets : PySem.W.codeIn K cd_subsets "subsets" = true)
    (k_subsets : PySem.W.keepIn K (.ref a_subsets) = true)
    (A_cuts_of : PySem.W.nsIn K mainGlobals "cuts_of" = some (some (.ref a_cuts_of)))
    (l_cuts_of : K.lookup a_cuts_of = some ⟨oc_cuts_of, od_cuts_of, .func (PySem.W.fnOf "cuts_of" "cuts_of" (defArgs st_cuts_of) (defBody st_cuts_of) (defScope st_cuts_of) .none kV_cuts_of dc_cuts_of pm_cuts_of an_cuts_of cd_cuts_of ct_cuts_of), sl_cuts_of⟩)
    (c_cuts_of : PySem.W.codeIn K cd_cuts_of "cuts_of" = true)
    (k_cuts_of : PySem.W.keepIn K (.ref a_cuts_of) = true)
    (A_place_of : PySem.W.nsIn K mainGlobals "place_of" = some (some (.ref a_place_of)))
    (l_place_of : K.lookup a_place_of = some ⟨oc_place_of, od_place_of, .func (PySem.W.fnOf "place_of" "place_of" (defArgs st_place_of) (defBody st_place_of) (defScope st_place_of) .none kV_place_of dc_place_of pm_place_of an_place_of cd_place_of ct_place_of), sl_place_of⟩)
    (c_place_of : PySem.W.codeIn K cd_place_of "place_of" = true)
    (k_place_of : PySem.W.keepIn K (.ref a_place_of) = true)
    (fi_Rule___init__ : PySem.W.findIn K (.ref C_Rule) "__init__" = some (some (.ref a_Rule___init__)))
    (if_Rule___init__ : PySem.W.isFn K (.ref a_Rule___init__) = true)
    (l_Rule___init__ : K.lookup a_Rule___init__ = some ⟨oc_Rule___init__, od_Rule___init__, .func (PySem.W.fnOf "__init__" "Rule.__init__" (defArgs st_Rule___init__) (defBody st_Rule___init__) (defScope st_Rule___init__) (.ref dt_Rule___init__) kV_Rule___init__ dc_Rule___init__ pm_Rule___init__ an_Rule___init__ cd_Rule___init__ ct_Rule___init__), sl_Rule___init__⟩)
    (c_Rule___init__ : PySem.W.codeIn K cd_Rule___init__ "Rule.__init__" = true)
    (k_Rule___init__ : PySem.W.keepIn K (.ref a_Rule___init__) = true)
    (mk_Rule : PySem.W.makesIn K C_Rule = true)
    (kc_Rule : PySem.W.keepIn K (.ref C_Rule) = true)
    (fi_Rule___sub__ : PySem.W.findIn K (.ref C_Rule) "__sub__" = some (some (.ref a_Rule___sub__)))
    (if_Rule___sub__ : PySem.W.isFn K (.ref a_Rule___sub__) = true)
    (l_Rule___sub__ : K.lookup a_Rule___sub__ = some ⟨oc_Rule___sub__, od_Rule___sub__, .func (PySem.W.fnOf "__sub__" "Rule.__sub__" (defArgs st_Rule___sub__) (defBody st_Rule___sub__) (defScope st_Rule___sub__) .none kV_Rule___sub__ dc_Rule___sub__ pm_Rule___sub__ an_Rule___sub__ cd_Rule___sub__ ct_Rule___sub__), sl_Rule___sub__⟩)
    (c_Rule___sub__ : PySem.W.codeIn K cd_Rule___sub__ "Rule.__sub__" = true)
    (k_Rule___sub__ : PySem.W.keepIn K (.ref a_Rule___sub__) = true)
    (A__law_draw : PySem.W.nsIn K mainGlobals "_law_draw" = some (some (.ref a__law_draw)))
    (l__law_draw : K.lookup a__law_draw = some ⟨oc__law_draw, od__law_draw, .func (PySem.W.fnOf "_law_draw" "_law_draw" (defArgs st__law_draw) (defBody st__law_draw) (defScope st__law_draw) .none kV__law_draw dc__law_draw pm__law_draw an__law_draw cd__law_draw ct__law_draw), sl__law_draw⟩)
    (c__law_draw : PySem.W.codeIn K cd__law_draw "_law_draw" = true)
    (k__law_draw : PySem.W.keepIn K (.ref a__law_draw) = true)
    (A__law_has : PySem.W.nsIn K mainGlobals "_law_has" = some (some (.ref a__law_has)))
    (l__law_has : K.lookup a__law_has = some ⟨oc__law_has, od__law_has, .func (PySem.W.fnOf "_law_has" "_law_has" (defArgs st__law_has) (defBody st__law_has) (defScope st__law_has) .none kV__law_has dc__law_has pm__law_has an__law_has cd__law_has ct__law_has), sl__law_has⟩)
    (c__law_has : PySem.W.codeIn K cd__law_has "_law_has" = true)
    (k__law_has : PySem.W.keepIn K (.ref a__law_has) = true)
    (A__law_is_pair : PySem.W.nsIn K mainGlobals "_law_is_pair" = some (some (.ref a__law_is_pair)))
    (l__law_is_pair : K.lookup a__law_is_pair = some ⟨oc__law_is_pair, od__law_is_pair, .func (PySem.W.fnOf "_law_is_pair" "_law_is_pair" (defArgs st__law_is_pair) (defBody st__law_is_pair) (defScope st__law_is_pair) .none kV__law_is_pair dc__law_is_pair pm__law_is_pair an__law_is_pair cd__law_is_pair ct__law_is_pair), sl__law_is_pair⟩)
    (c__law_is_pair : PySem.W.codeIn K cd__law_is_pair "_law_is_pair" = true)
    (k__law_is_pair : PySem.W.keepIn K (.ref a__law_is_pair) = true)
    (A__law_links : PySem.W.nsIn K mainGlobals "_law_links" = some (some (.ref a__law_links)))
    (l__law_links : K.lookup a__law_links = some ⟨oc__law_links, od__law_links, .func (PySem.W.fnOf "_law_links" "_law_links" (defArgs st__law_links) (defBody st__law_links) (defScope st__law_links) .none kV__law_links dc__law_links pm__law_links an__law_links cd__law_links ct__law_links), sl__law_links⟩)
    (c__law_links : PySem.W.codeIn K cd__law_links "_law_links" = true)
    (k__law_links : PySem.W.keepIn K (.ref a__law_links) = true)
    (A__law_names : PySem.W.nsIn K mainGlobals "_law_names" = some (some (.ref a__law_names)))
    (l__law_names : K.lookup a__law_names = some ⟨oc__law_names, od__law_names, .func (PySem.W.fnOf "_law_names" "_law_names" (defArgs st__law_names) (defBody st__law_names) (defScope st__law_names) .none kV__law_names dc__law_names pm__law_names an__law_names cd__law_names ct__law_names), sl__law_names⟩)
    (c__law_names : PySem.W.codeIn K cd__law_names "_law_names" = true)
    (k__law_names : PySem.W.keepIn K (.ref a__law_names) = true)
    (fi_Rule___contains__ : PySem.W.findIn K (.ref C_Rule) "__contains__" = some (some (.ref a_Rule___contains__)))
    (if_Rule___contains__ : PySem.W.isFn K (.ref a_Rule___contains__) = true)
    (l_Rule___contains__ : K.lookup a_Rule___contains__ = some ⟨oc_Rule___contains__, od_Rule___contains__, .func (PySem.W.fnOf "__contains__" "Rule.__contains__" (defArgs st_Rule___contains__) (defBody st_Rule___contains__) (defScope st_Rule___contains__) .none kV_Rule___contains__ dc_Rule___contains__ pm_Rule___contains__ an_Rule___contains__ cd_Rule___contains__ ct_Rule___contains__), sl_Rule___contains__⟩)
    (c_Rule___contains__ : PySem.W.codeIn K cd_Rule___contains__ "Rule.__contains__" = true)
    (k_Rule___contains__ : PySem.W.keepIn K (.ref a_Rule___contains__) = true)
    (fi_Rule___add__ : PySem.W.findIn K (.ref C_Rule) "__add__" = some (some (.ref a_Rule___add__)))
    (if_Rule___add__ : PySem.W.isFn K (.ref a_Rule___add__) = true)
    (l_Rule___add__ : K.lookup a_Rule___add__ = some ⟨oc_Rule___add__, od_Rule___add__, .func (PySem.W.fnOf "__add__" "Rule.__add__" (defArgs st_Rule___add__) (defBody st_Rule___add__) (defScope st_Rule___add__) .none kV_Rule___add__ dc_Rule___add__ pm_Rule___add__ an_Rule___add__ cd_Rule___add__ ct_Rule___add__), sl_Rule___add__⟩)
    (c_Rule___add__ : PySem.W.codeIn K cd_Rule___add__ "Rule.__add__" = true)
    (k_Rule___add__ : PySem.W.keepIn K (.ref a_Rule___add__) = true)
    (fi_Rule___len__ : PySem.W.findIn K (.ref C_Rule) "__len__" = some (some (.ref a_Rule___len__)))
    (if_Rule___len__ : PySem.W.isFn K (.ref a_Rule___len__) = true)
    (l_Rule___len__ : K.lookup a_Rule___len__ = some ⟨oc_Rule___len__, od_Rule___len__, .func (PySem.W.fnOf "__len__" "Rule.__len__" (defArgs st_Rule___len__) (defBody st_Rule___len__) (defScope st_Rule___len__) .none kV_Rule___len__ dc_Rule___len__ pm_Rule___len__ an_Rule___len__ cd_Rule___len__ ct_Rule___len__), sl_Rule___len__⟩)
    (c_Rule___len__ : PySem.W.codeIn K cd_Rule___len__ "Rule.__len__" = true)
    (k_Rule___len__ : PySem.W.keepIn K (.ref a_Rule___len__) = true)
    (fi_Rule___bool__ : PySem.W.findIn K (.ref C_Rule) "__bool__" = some (some (.ref a_Rule___bool__)))
    (if_Rule___bool__ : PySem.W.isFn K (.ref a_Rule___bool__) = true)
    (l_Rule___bool__ : K.lookup a_Rule___bool__ = some ⟨oc_Rule___bool__, od_Rule___bool__, .func (PySem.W.fnOf "__bool__" "Rule.__bool__" (defArgs st_Rule___bool__) (defBody st_Rule___bool__) (defScope st_Rule___bool__) .none kV_Rule___bool__ dc_Rule___bool__ pm_Rule___bool__ an_Rule___bool__ cd_Rule___bool__ ct_Rule___bool__), sl_Rule___bool__⟩)
    (c_Rule___bool__ : PySem.W.codeIn K cd_Rule___bool__ "Rule.__bool__" = true)
    (k_Rule___bool__ : PySem.W.keepIn K (.ref a_Rule___bool__) = true)
    (fi_Rule___eq__ : PySem.W.findIn K (.ref C_Rule) "__eq__" = some (some (.ref a_Rule___eq__)))
    (if_Rule___eq__ : PySem.W.isFn K (.ref a_Rule___eq__) = true)
    (l_Rule___eq__ : K.lookup a_Rule___eq__ = some ⟨oc_Rule___eq__, od_Rule___eq__, .func (PySem.W.fnOf "__eq__" "Rule.__eq__" (defArgs st_Rule___eq__) (defBody st_Rule___eq__) (defScope st_Rule___eq__) .none kV_Rule___eq__ dc_Rule___eq__ pm_Rule___eq__ an_Rule___eq__ cd_Rule___eq__ ct_Rule___eq__), sl_Rule___eq__⟩)
    (c_Rule___eq__ : PySem.W.codeIn K cd_Rule___eq__ "Rule.__eq__" = true)
    (k_Rule___eq__ : PySem.W.keepIn K (.ref a_Rule___eq__) = true)
    (fi_Rule___str__ : PySem.W.findIn K (.ref C_Rule) "__str__" = some (some (.ref a_Rule___str__)))
    (if_Rule___str__ : PySem.W.isFn K (.ref a_Rule___str__) = true)
    (l_Rule___str__ : K.lookup a_Rule___str__ = some ⟨oc_Rule___str__, od_Rule___str__, .func (PySem.W.fnOf "__str__" "Rule.__str__" (defArgs st_Rule___str__) (defBody st_Rule___str__) (defScope st_Rule___str__) .none kV_Rule___str__ dc_Rule___str__ pm_Rule___str__ an_Rule___str__ cd_Rule___str__ ct_Rule___str__), sl_Rule___str__⟩)
    (c_Rule___str__ : PySem.W.codeIn K cd_Rule___str__ "Rule.__str__" = true)
    (k_Rule___str__ : PySem.W.keepIn K (.ref a_Rule___str__) = true)
    (A__law_says : PySem.W.nsIn K mainGlobals "_law_says" = some (some (.ref a__law_says)))
    (l__law_says : K.lookup a__law_says = some ⟨oc__law_says, od__law_says, .func (PySem.W.fnOf "_law_says" "_law_says" (defArgs st__law_says) (defBody st__law_says) (defScope st__law_says) .none kV__law_says dc__law_says pm__law_says an__law_says cd__law_says ct__law_says), sl__law_says⟩)
    (c__law_says : PySem.W.codeIn K cd__law_says "_law_says" = true)
    (k__law_says : PySem.W.keepIn K (.ref a__law_says) = true)
    (A__law_tied : PySem.W.nsIn K mainGlobals "_law_tied" = some (some (.ref a__law_tied)))
    (l__law_tied : K.lookup a__law_tied = some ⟨oc__law_tied, od__law_tied, .func (PySem.W.fnOf "_law_tied" "_law_tied" (defArgs st__law_tied) (defBody st__law_tied) (defScope st__law_tied) .none kV__law_tied dc__law_tied pm__law_tied an__law_tied cd__law_tied ct__law_tied), sl__law_tied⟩)
    (c__law_tied : PySem.W.codeIn K cd__law_tied "_law_tied" = true)
    (k__law_tied : PySem.W.keepIn K (.ref a__law_tied) = true)
    (A__law_right : PySem.W.nsIn K mainGlobals "_law_right" = some (some (.ref a__law_right)))
    (l__law_right : K.lookup a__law_right = some ⟨oc__law_right, od__law_right, .func (PySem.W.fnOf "_law_right" "_law_right" (defArgs st__law_right) (defBody st__law_right) (defScope st__law_right) .none kV__law_right dc__law_right pm__law_right an__law_right cd__law_right ct__law_right), sl__law_right⟩)
    (c__law_right : PySem.W.codeIn K cd__law_right "_law_right" = true)
    (k__law_right : PySem.W.keepIn K (.ref a__law_right) = true)
    (A_law : PySem.W.nsIn K mainGlobals "law" = some (some (.ref a_law)))
    (l_law : K.lookup a_law = some ⟨oc_law, od_law, .func (PySem.W.fnOf "law" "law" (defArgs st_law) (defBody st_law) (defScope st_law) .none kV_law dc_law pm_law an_law cd_law ct_law), sl_law⟩)
    (c_law : PySem.W.codeIn K cd_law "law" = true)
    (k_law : PySem.W.keepIn K (.ref a_law) = true)
    (z_len : PySem.W.nsIn K mainGlobals "len" = some none)
    (z_min : PySem.W.nsIn K mainGlobals "min" = some none)
    (z_max : PySem.W.nsIn K mainGlobals "max" = some none)
    (z_range : PySem.W.nsIn K mainGlobals "range" = some none)
    (z_abs : PySem.W.nsIn K mainGlobals "abs" = some none)
    (z_int : PySem.W.nsIn K mainGlobals "int" = some none)
    (sf_Rule : PySem.W.selfFirst K C_Rule = true)
    (hu_Rule : PySem.W.subIn K (.type "tuple") (.ref C_Rule) = some false)
    (hr_Rule___add__ : PySem.W.findIn K (.ref C_Rule) (dunderR (Operator.info .Add).2) = some none)
    (h1_Rule___add__ : PySem.W.findIn K (.type "tuple") (PySem.dunder (Operator.info .Add).2) = some fo_Rule___add__)
    (h2_Rule___add__ : PySem.W.findIn K (.type "tuple") (dunderR (Operator.info .Add).2) = some ro_Rule___add__)
    (hr_Rule___sub__ : PySem.W.findIn K (.ref C_Rule) (dunderR (Operator.info .Sub).2) = some none)
    (h1_Rule___sub__ : PySem.W.findIn K (.type "tuple") (PySem.dunder (Operator.info .Sub).2) = some fo_Rule___sub__)
    (h2_Rule___sub__ : PySem.W.findIn K (.type "tuple") (dunderR (Operator.info .Sub).2) = some ro_Rule___sub__)
    (z_list : PySem.W.nsIn K mainGlobals "list" = some none)
    (z_tuple : PySem.W.nsIn K mainGlobals "tuple" = some none)
    (nA_Rule_borders : PySem.W.findIn K (.ref C_Rule) (Str.ofString "borders") = some none)
    (nA_Rule_lines : PySem.W.findIn K (.ref C_Rule) (Str.ofString "lines") = some none)
    (nA_Rule_links : PySem.W.findIn K (.ref C_Rule) (Str.ofString "links") = some none)
    (nA_Rule_sorts : PySem.W.findIn K (.ref C_Rule) (Str.ofString "sorts") = some none)
    (z_isinstance : PySem.W.nsIn K mainGlobals "isinstance" = some none)
    (z_enumerate : PySem.W.nsIn K mainGlobals "enumerate" = some none)
    (u_MOST_KINDS_ : PySem.W.nsIn K mainGlobals "MOST_KINDS" = some (some u_MOST_KINDS))
    (R_MOST_KINDS : RelV (.int 6) u_MOST_KINDS)
    (u_LETTERS_ : PySem.W.nsIn K mainGlobals "LETTERS" = some (some u_LETTERS))
    (R_LETTERS : RelV (.str (sof [97, 98, 99, 100, 101, 102, 103, 104, 105, 106, 107, 108, 109, 110, 111, 112, 113, 114, 115, 116, 117, 118, 119, 120, 121, 122])) u_LETTERS)
    (u_DIGITS_ : PySem.W.nsIn K mainGlobals "DIGITS" = some (some u_DIGITS))
    (R_DIGITS : RelV (.str (sof [48, 49, 50, 51, 52, 53, 54, 55, 56, 57])) u_DIGITS)
    (z_all : PySem.W.nsIn K mainGlobals "all" = some none)
    (z_str : PySem.W.nsIn K mainGlobals "str" = some none)
    (u_LONGEST_NAME_ : PySem.W.nsIn K mainGlobals "LONGEST_NAME" = some (some u_LONGEST_NAME))
    (R_LONGEST_NAME : RelV (.int 8) u_LONGEST_NAME)
    (z_any : PySem.W.nsIn K mainGlobals "any" = some none)
    (z_sorted : PySem.W.nsIn K mainGlobals "sorted" = some none)
    (z_set : PySem.W.nsIn K mainGlobals "set" = some none)
    (z_divmod : PySem.W.nsIn K mainGlobals "divmod" = some none)
    (z_repr : PySem.W.nsIn K mainGlobals "repr" = some none)
    (ic_Rule : PySem.W.findIn K (.ref C_Rule) "__class__" = some (some (.builtin "object.__class__")))
    (mo_Rule : PySem.W.mroIn K C_Rule (.type "object") = some true)
    (is_Rule : PySem.W.isClsIn K C_Rule = true)
    (ty_Rule : PySem.W.typeIn K (.ref C_Rule) = some (.type "type"))
    (gx_Rule : PySem.W.specialIn K (.builtin "object.__class__") "__get__" = some (some (.builtin "getset_descriptor.__get__")))
    (gt_Rule : PySem.W.takesIn K (.builtin "object.__class__") = some true)
    (b0_Rule : PySem.W.subIn K (.type "NoneType") (.ref C_Rule) = some false)
    (b1_Rule : PySem.W.subIn K (.type "bool") (.ref C_Rule) = some false)
    (b2_Rule : PySem.W.subIn K (.type "int") (.ref C_Rule) = some false)
    (b3_Rule : PySem.W.subIn K (.type "str") (.ref C_Rule) = some false)
    (b4_Rule : PySem.W.subIn K (.type "tuple") (.ref C_Rule) = some false)
    (b5_Rule : PySem.W.subIn K (.type "list") (.ref C_Rule) = some false)
    (b6_Rule : PySem.W.subIn K (.type "dict") (.ref C_Rule) = some false)
    (d1_Rule___init__ : K.lookup dt_Rule___init__ = some do1_Rule___init__)
    (d2_Rule___init__ : do1_Rule___init__.data = .seq #[.ref t_Rule___init__] dn_Rule___init__)
    (d3_Rule___init__ : K.lookup t_Rule___init__ = some do2_Rule___init__)
    (d4_Rule___init__ : do2_Rule___init__.cls = .type "tuple")
    (d5_Rule___init__ : do2_Rule___init__.data = .seq #[] dn2_Rule___init__) :
    ∃ (fd : FuncData) (ca : String → Addr), (∀ (s : Shared) (u : Value), BindsTo s fd ⟨[u], []⟩ [("script", u)]) ∧ ∀ base : Heap, FnG P w K mg base 11 fa fd ["script"] (spF K ca F_law 1) := by
  have e := (PySem.W.mg_of X G A_law).symm.trans hfa
  cases e
  exact ⟨_, _, fun _ _ => .of_eq rfl, fun base => g_law (T := { ca := fun c => if c = "Rule" then C_Rule else if c = "InvalidKinds" then C_InvalidKinds else if c = "InvalidTies" then C_InvalidTies else if c = "WrongValue" then C_WrongValue else 0, m_Rule := PySem.W.mg_of X G a_Rule, cl_Rule := ⟨pg_Rule, hd_Rule, po_Rule, sa_Rule⟩, m_InvalidKinds := PySem.W.mg_of X G a_InvalidKinds, m_InvalidTies := PySem.W.mg_of X G a_InvalidTies, m_WrongValue := PySem.W.mg_of X G a_WrongValue, oe_InvalidKinds := ⟨⟨_, _, _, _, _, _, _, _, _, _, _, _, _, _, _, x_InvalidKinds, rfl⟩, sa_InvalidKinds, eb_InvalidKinds, ty_InvalidKinds, kc_InvalidKinds⟩, no_InvalidKinds_index := no_InvalidKinds_index, a_InvalidKinds___init__ := a_InvalidKinds___init__, fd_InvalidKinds___init__ := _, F_InvalidKinds___init__ := fun_mk l_InvalidKinds___init__ c_InvalidKinds___init__ k_InvalidKinds___init__, fi_InvalidKinds___init__ := fi_InvalidKinds___init__, ti_InvalidKinds___init__ := ti_InvalidKinds___init__, b_InvalidKinds___init__ := (fun_mk l_InvalidKinds___init__ c_InvalidKinds___init__ k_InvalidKinds___init__).binds (ps := ["self", "index"]) fun _ _ _ _ _ _ us hl => match us, hl with | [_, _], _ => rfl, oe_InvalidTies := ⟨⟨_, _, _, _, _, _, _, _, _, _, _, _, _, _, _, x_InvalidTies, rfl⟩, sa_InvalidTies, eb_InvalidTies, ty_InvalidTies, kc_InvalidTies⟩, no_InvalidTies_index := no_InvalidTies_index, a_InvalidTies___init__ := a_InvalidTies___init__, fd_InvalidTies___init__ := _, F_InvalidTies___init__ := fun_mk l_InvalidTies___init__ c_InvalidTies___init__ k_InvalidTies___init__, fi_InvalidTies___init__ := fi_InvalidTies___init__, ti_InvalidTies___init__ := ti_InvalidTies___init__, b_InvalidTies___init__ := (fun_mk l_InvalidTies___init__ c_InvalidTies___init__ k_InvalidTies___init__).binds (ps := ["self", "index"]) fun _ _ _ _ _ _ us hl => match us, hl with | [_, _], _ => rfl, a__law_purse := a__law_purse, fd__law_purse := _, k__law_purse := k__law_purse, F__law_purse := fun_mk l__law_purse c__law_purse k__law_purse, m__law_purse := PySem.W.mg_of X G A__law_purse, b__law_purse := (fun_mk l__law_purse c__law_purse k__law_purse).binds (ps := ["script", "at"]) fun _ _ _ _ _ _ us hl => match us, hl with | [_, _], _ => rfl, a_is_name := a_is_name, fd_is_name := _, k_is_name := k_is_name, F_is_name := fun_mk l_is_name c_is_name k_is_name, m_is_name := PySem.W.mg_of X G A_is_name, b_is_name := (fun_mk l_is_name c_is_name k_is_name).binds (ps := ["value"]) fun _ _ _ _ _ _ us hl => match us, hl with | [_], _ => rfl, a_wrong_kind := a_wrong_kind, fd_wrong_kind := _, k_wrong_kind := k_wrong_kind, F_wrong_kind := fun_mk l_wrong_kind c_wrong_kind k_wrong_kind, m_wrong_kind := PySem.W.mg_of X G A_wrong_kind, b_wrong_kind := (fun_mk l_wrong_kind c_wrong_kind k_wrong_kind).binds (ps := ["kinds"]) fun _ _ _ _ _ _ us hl => match us, hl with | [_], _ => rfl, a_check_new_kinds := a_check_new_kinds, fd_check_new_kinds := _, k_check_new_kinds := k_check_new_kinds, F_check_new_kinds := fun_mk l_check_new_kinds c_check_new_kinds k_check_new_kinds, m_check_new_kinds := PySem.W.mg_of X G A_check_new_kinds, b_check_new_kinds := (fun_mk l_check_new_kinds c_check_new_kinds k_check_new_kinds).binds (ps := ["kinds"]) fun _ _ _ _ _ _ us hl => match us, hl with | [_], _ => rfl, a_is_tie := a_is_tie, fd_is_tie := _, k_is_tie := k_is_tie, F_is_tie := fun_mk l_is_tie c_is_tie k_is_tie, m_is_tie := PySem.W.mg_of X G A_is_tie, b_is_tie := (fun_mk l_is_tie c_is_tie k_is_tie).binds (ps := ["value", "kinds"]) fun _ _ _ _ _ _ us hl => match us, hl with | [_, _], _ => rfl, a_is_told := a_is_told, fd_is_told := _, k_is_told := k_is_told, F_is_told := fun_mk l_is_told c_is_told k_is_told, m_is_told := PySem.W.mg_of X G A_is_told, b_is_told := (fun_mk l_is_told c_is_told k_is_told).binds (ps := ["ties", "tie"]) fun _ _ _ _ _ _ us hl => match us, hl with | [_, _], _ => rfl, a_wrong_tie := a_wrong_tie, fd_wrong_tie := _, k_wrong_tie := k_wrong_tie, F_wrong_tie := fun_mk l_wrong_tie c_wrong_tie k_wrong_tie, m_wrong_tie := PySem.W.mg_of X G A_wrong_tie, b_wrong_tie := (fun_mk l_wrong_tie c_wrong_tie k_wrong_tie).binds (ps := ["ties", "kinds"]) fun _ _ _ _ _ _ us hl => match us, hl with | [_, _], _ => rfl, a_check_ties := a_check_ties, fd_check_ties := _, k_check_ties := k_check_ties, F_check_ties := fun_mk l_check_ties c_check_ties k_check_ties, m_check_ties := PySem.W.mg_of X G A_check_ties, b_check_ties := (fun_mk l_check_ties c_check_ties k_check_ties).binds (ps := ["ties", "kinds"]) fun _ _ _ _ _ _ us hl => match us, hl with | [_, _], _ => rfl, a_lump_around := a_lump_around, fd_lump_around := _, k_lump_around := k_lump_around, F_lump_around := fun_mk l_lump_around c_lump_around k_lump_around, m_lump_around := PySem.W.mg_of X G A_lump_around, b_lump_around := (fun_mk l_lump_around c_lump_around k_lump_around).binds (ps := ["near", "start"]) fun _ _ _ _ _ _ us hl => match us, hl with | [_, _], _ => rfl, a_near_outside := a_near_outside, fd_near_outside := _, k_near_outside := k_near_outside, F_near_outside := fun_mk l_near_outside c_near_outside k_near_outside, m_near_outside := PySem.W.mg_of X G A_near_outside, b_near_outside := (fun_mk l_near_outside c_near_outside k_near_outside).binds (ps := ["many", "ties", "chosen"]) fun _ _ _ _ _ _ us hl => match us, hl with | [_, _, _], _ => rfl, a_cut_of := a_cut_of, fd_cut_of := _, k_cut_of := k_cut_of, F_cut_of := fun_mk l_cut_of c_cut_of k_cut_of, m_cut_of := PySem.W.mg_of X G A_cut_of, b_cut_of := (fun_mk l_cut_of c_cut_of k_cut_of).binds (ps := ["many", "ties", "chosen"]) fun _ _ _ _ _ _ us hl => match us, hl with | [_, _, _], _ => rfl, a_subsets := a_subsets, fd_subsets := _, k_subsets := k_subsets, F_subsets := fun_mk l_subsets c_subsets k_subsets, m_subsets := PySem.W.mg_of X G A_subsets, b_subsets := (fun_mk l_subsets c_subsets k_subsets).binds (ps := ["many"]) fun _ _ _ _ _ _ us hl => match us, hl with | [_], _ => rfl, a_cuts_of := a_cuts_of, fd_cuts_of := _, k_cuts_of := k_cuts_of, F_cuts_of := fun_mk l_cuts_of c_cuts_of k_cuts_of, m_cuts_of := PySem.W.mg_of X G A_cuts_of, b_cuts_of := (fun_mk l_cuts_of c_cuts_of k_cuts_of).binds (ps := ["many", "ties"]) fun _ _ _ _ _ _ us hl => match us, hl with | [_, _], _ => rfl, a_place_of := a_place_of, fd_place_of := _, k_place_of := k_place_of, F_place_of := fun_mk l_place_of c_place_of k_place_of, m_place_of := PySem.W.mg_of X G A_place_of, b_place_of := (fun_mk l_place_of c_place_of k_place_of).binds (ps := ["kinds", "kind"]) fun _ _ _ _ _ _ us hl => match us, hl with | [_, _], _ => rfl, a_Rule___init__ := a_Rule___init__, fd_Rule___init__ := _, k_Rule___init__ := k_Rule___init__, dt_Rule___init__ := dt_Rule___init__, F_Rule___init__ := funD_mk l_Rule___init__ c_Rule___init__, fi_Rule___init__ := fi_Rule___init__, if_Rule___init__ := if_Rule___init__, mk_Rule := ⟨mk_Rule, fi_Rule___init__, if_Rule___init__, kc_Rule⟩, b_Rule___init__ := fun _ us X hl => match us, hl with | [_, _, _], _ => PySem.W.binds_K X rfl d1_Rule___init__ d2_Rule___init__ rfl rfl, a_Rule___sub__ := a_Rule___sub__, fd_Rule___sub__ := _, k_Rule___sub__ := k_Rule___sub__, F_Rule___sub__ := fun_mk l_Rule___sub__ c_Rule___sub__ k_Rule___sub__, fi_Rule___sub__ := fi_Rule___sub__, if_Rule___sub__ := if_Rule___sub__, b_Rule___sub__ := (fun_mk l_Rule___sub__ c_Rule___sub__ k_Rule___sub__).binds (ps := ["self", "tie"]) fun _ _ _ _ _ _ us hl => match us, hl with | [_, _], _ => rfl, a__law_draw := a__law_draw, fd__law_draw := _, k__law_draw := k__law_draw, F__law_draw := fun_mk l__law_draw c__law_draw k__law_draw, m__law_draw := PySem.W.mg_of X G A__law_draw, b__law_draw := (fun_mk l__law_draw c__law_draw k__law_draw).binds (ps := ["purse", "many"]) fun _ _ _ _ _ _ us hl => match us, hl with | [_, _], _ => rfl, a__law_has := a__law_has, fd__law_has := _, k__law_has := k__law_has, F__law_has := fun_mk l__law_has c__law_has k__law_has, m__law_has := PySem.W.mg_of X G A__law_has, b__law_has := (fun_mk l__law_has c__law_has k__law_has).binds (ps := ["links", "pair"]) fun _ _ _ _ _ _ us hl => match us, hl with | [_, _], _ => rfl, a__law_is_pair := a__law_is_pair, fd__law_is_pair := _, k__law_is_pair := k__law_is_pair, F__law_is_pair := fun_mk l__law_is_pair c__law_is_pair k__law_is_pair, m__law_is_pair := PySem.W.mg_of X G A__law_is_pair, b__law_is_pair := (fun_mk l__law_is_pair c__law_is_pair k__law_is_pair).binds (ps := ["thing", "names"]) fun _ _ _ _ _ _ us hl => match us, hl with | [_, _], _ => rfl, a__law_links := a__law_links, fd__law_links := _, k__law_links := k__law_links, F__law_links := fun_mk l__law_links c__law_links k__law_links, m__law_links := PySem.W.mg_of X G A__law_links, b__law_links := (fun_mk l__law_links c__law_links k__law_links).binds (ps := ["purse", "many"]) fun _ _ _ _ _ _ us hl => match us, hl with | [_, _], _ => rfl, a__law_names := a__law_names, fd__law_names := _, k__law_names := k__law_names, F__law_names := fun_mk l__law_names c__law_names k__law_names, m__law_names := PySem.W.mg_of X G A__law_names, b__law_names := (fun_mk l__law_names c__law_names k__law_names).binds (ps := ["purse", "many"]) fun _ _ _ _ _ _ us hl => match us, hl with | [_, _], _ => rfl, a_Rule___contains__ := a_Rule___contains__, fd_Rule___contains__ := _, k_Rule___contains__ := k_Rule___contains__, F_Rule___contains__ := fun_mk l_Rule___contains__ c_Rule___contains__ k_Rule___contains__, fi_Rule___contains__ := fi_Rule___contains__, if_Rule___contains__ := if_Rule___contains__, b_Rule___contains__ := (fun_mk l_Rule___contains__ c_Rule___contains__ k_Rule___contains__).binds (ps := ["self", "value"]) fun _ _ _ _ _ _ us hl => match us, hl with | [_, _], _ => rfl, a_Rule___add__ := a_Rule___add__, fd_Rule___add__ := _, k_Rule___add__ := k_Rule___add__, F_Rule___add__ := fun_mk l_Rule___add__ c_Rule___add__ k_Rule___add__, fi_Rule___add__ := fi_Rule___add__, if_Rule___add__ := if_Rule___add__, b_Rule___add__ := (fun_mk l_Rule___add__ c_Rule___add__ k_Rule___add__).binds (ps := ["self", "tie"]) fun _ _ _ _ _ _ us hl => match us, hl with | [_, _], _ => rfl, a_Rule___len__ := a_Rule___len__, fd_Rule___len__ := _, k_Rule___len__ := k_Rule___len__, F_Rule___len__ := fun_mk l_Rule___len__ c_Rule___len__ k_Rule___len__, fi_Rule___len__ := fi_Rule___len__, if_Rule___len__ := if_Rule___len__, b_Rule___len__ := (fun_mk l_Rule___len__ c_Rule___len__ k_Rule___len__).binds (ps := ["self"]) fun _ _ _ _ _ _ us hl => match us, hl with | [_], _ => rfl, a_Rule___bool__ := a_Rule___bool__, fd_Rule___bool__ := _, k_Rule___bool__ := k_Rule___bool__, F_Rule___bool__ := fun_mk l_Rule___bool__ c_Rule___bool__ k_Rule___bool__, fi_Rule___bool__ := fi_Rule___bool__, if_Rule___bool__ := if_Rule___bool__, b_Rule___bool__ := (fun_mk l_Rule___bool__ c_Rule___bool__ k_Rule___bool__).binds (ps := ["self"]) fun _ _ _ _ _ _ us hl => match us, hl with | [_], _ => rfl, a_Rule___eq__ := a_Rule___eq__, fd_Rule___eq__ := _, k_Rule___eq__ := k_Rule___eq__, F_Rule___eq__ := fun_mk l_Rule___eq__ c_Rule___eq__ k_Rule___eq__, fi_Rule___eq__ := fi_Rule___eq__, if_Rule___eq__ := if_Rule___eq__, b_Rule___eq__ := (fun_mk l_Rule___eq__ c_Rule___eq__ k_Rule___eq__).binds (ps := ["self", "other"]) fun _ _ _ _ _ _ us hl => match us, hl with | [_, _], _ => rfl, a_Rule___str__ := a_Rule___str__, fd_Rule___str__ := _, k_Rule___str__ := k_Rule___str__, F_Rule___str__ := fun_mk l_Rule___str__ c_Rule___str__ k_Rule___str__, fi_Rule___str__ := fi_Rule___str__, if_Rule___str__ := if_Rule___str__, b_Rule___str__ := (fun_mk l_Rule___str__ c_Rule___str__ k_Rule___str__).binds (ps := ["self"]) fun _ _ _ _ _ _ us hl => match us, hl with | [_], _ => rfl, a__law_says := a__law_says, fd__law_says := _, k__law_says := k__law_says, F__law_says := fun_mk l__law_says c__law_says k__law_says, m__law_says := PySem.W.mg_of X G A__law_says, b__law_says := (fun_mk l__law_says c__law_says k__law_says).binds (ps := ["here", "thing", "due"]) fun _ _ _ _ _ _ us hl => match us, hl with | [_, _, _], _ => rfl, a__law_tied := a__law_tied, fd__law_tied := _, k__law_tied := k__law_tied, F__law_tied := fun_mk l__law_tied c__law_tied k__law_tied, m__law_tied := PySem.W.mg_of X G A__law_tied, b__law_tied := (fun_mk l__law_tied c__law_tied k__law_tied).binds (ps := ["names", "pairs"]) fun _ _ _ _ _ _ us hl => match us, hl with | [_, _], _ => rfl, a__law_right := a__law_right, fd__law_right := _, k__law_right := k__law_right, F__law_right := fun_mk l__law_right c__law_right k__law_right, m__law_right := PySem.W.mg_of X G A__law_right, b__law_right := (fun_mk l__law_right c__law_right k__law_right).binds (ps := ["purse"]) fun _ _ _ _ _ _ us hl => match us, hl with | [_], _ => rfl, a_law := fa, fd_law := _, k_law := k_law, F_law := fun_mk l_law c_law k_law, m_law := PySem.W.mg_of X G A_law, b_law := (fun_mk l_law c_law k_law).binds (ps := ["script"]) fun _ _ _ _ _ _ us hl => match us, hl with | [_], _ => rfl, n_len := PySem.W.mg_none_of X G z_len, n_min := PySem.W.mg_none_of X G z_min, n_max := PySem.W.mg_none_of X G z_max, n_range := PySem.W.mg_none_of X G z_range, n_abs := PySem.W.mg_none_of X G z_abs, n_int := PySem.W.mg_none_of X G z_int, sf_Rule := sf_Rule, hu_Rule := hu_Rule, fo_Rule___add__ := fo_Rule___add__, ro_Rule___add__ := ro_Rule___add__, hr_Rule___add__ := hr_Rule___add__, h1_Rule___add__ := h1_Rule___add__, h2_Rule___add__ := h2_Rule___add__, fo_Rule___sub__ := fo_Rule___sub__, ro_Rule___sub__ := ro_Rule___sub__, hr_Rule___sub__ := hr_Rule___sub__, h1_Rule___sub__ := h1_Rule___sub__, h2_Rule___sub__ := h2_Rule___sub__, n_list := PySem.W.mg_none_of X G z_list, n_tuple := PySem.W.mg_none_of X G z_tuple, nA_Rule_borders := nA_Rule_borders, nA_Rule_lines := nA_Rule_lines, nA_Rule_links := nA_Rule_links, nA_Rule_sorts := nA_Rule_sorts, n_isinstance := PySem.W.mg_none_of X G z_isinstance, n_enumerate := PySem.W.mg_none_of X G z_enumerate, u_MOST_KINDS := u_MOST_KINDS, m_MOST_KINDS := PySem.W.mg_of X G u_MOST_KINDS_, r_MOST_KINDS := R_MOST_KINDS, u_LETTERS := u_LETTERS, m_LETTERS := PySem.W.mg_of X G u_LETTERS_, r_LETTERS := R_LETTERS, u_DIGITS := u_DIGITS, m_DIGITS := PySem.W.mg_of X G u_DIGITS_, r_DIGITS := R_DIGITS, n_all := PySem.W.mg_none_of X G z_all, n_str := PySem.W.mg_none_of X G z_str, u_LONGEST_NAME := u_LONGEST_NAME, m_LONGEST_NAME := PySem.W.mg_of X G u_LONGEST_NAME_, r_LONGEST_NAME := R_LONGEST_NAME, n_any := PySem.W.mg_none_of X G z_any, n_sorted := PySem.W.mg_none_of X G z_sorted, n_set := PySem.W.mg_none_of X G z_set, n_divmod := PySem.W.mg_none_of X G z_divmod, n_repr := PySem.W.mg_none_of X G z_repr, ci_Rule := ⟨⟨pg_Rule, hd_Rule, po_Rule, sa_Rule⟩, ic_Rule, gx_Rule, gt_Rule, mo_Rule⟩, ki_Rule := kit_self, nb_Rule := ⟨kit_not is_Rule ty_Rule b0_Rule, kit_not is_Rule ty_Rule b1_Rule, kit_not is_Rule ty_Rule b2_Rule, kit_not is_Rule ty_Rule b3_Rule, kit_not is_Rule ty_Rule b4_Rule, kit_not is_Rule ty_Rule b5_Rule, kit_not is_Rule ty_Rule b6_Rule⟩, t_Rule___init__ := t_Rule___init__, kt_Rule___init__ := ⟨_, #[], _, d3_Rule___init__, d4_Rule___init__, d5_Rule___init__, by decide, .nil⟩ })⟩
end Pk
open PySem PySem.W PyProof.Rows
set_option maxRecDepth 100000 in
set_option maxHeartbeats 0 in
theorem PySem.Challenge.cw_pairkinds_k06_ties_in_rules_holds : PySem.Challenge.rw_pairkinds_k06_ties_in_rules.Holds := by
  w_on; o_law; k_head; (case hw => w_witness2)
  k_fill
  refine Pk.walkG (l := PySem.Challenge.rw_pairkinds_k06_ties_in_rules) (k := 11) (F_law := Pk.F_law) rfl rfl ⟨rfl, by decide, by decide⟩ (fun w h Y => PySem.W.kIn_of Y) Pk.law_true ?F
  case F =>
    intro w mg fa h KX G hmg
    refine' Pk.all_mk KX G hmg ?h_a_Rule ?h_pg_Rule ?h_hd_Rule ?h_po_Rule ?h_sa_Rule ?h_a_InvalidKinds ?h_a_InvalidTies ?h_a_WrongValue ?h_is_InvalidKinds ?h_ty_InvalidKinds ?h_is_InvalidTies ?h_ty_InvalidTies ?h_is_WrongValue ?h_ty_WrongValue ?h_x_InvalidKinds ?h_sa_InvalidKinds ?h_eb_InvalidKinds ?h_kc_InvalidKinds ?h_no_InvalidKinds_index ?h_fi_InvalidKinds___init__ ?h_ti_InvalidKinds___init__ ?h_l_InvalidKinds___init__ ?h_c_InvalidKinds___init__ ?h_k_InvalidKinds___init__ ?h_x_InvalidTies ?h_sa_InvalidTies ?h_eb_InvalidTies ?h_kc_InvalidTies ?h_no_InvalidTies_index ?h_fi_InvalidTies___init__ ?h_ti_InvalidTies___init__ ?h_l_InvalidTies___init__ ?h_c_InvalidTies___init__ ?h_k_InvalidTies___init__ ?h_A__law_purse ?h_l__law_purse ?h_c__law_purse ?h_k__law_purse ?h_A_is_name ?h_l_is_name ?h_c_is_name ?h_k_is_name ?h_A_wrong_kind ?h_l_wrong_kind ?h_c_wrong_kind ?h_k_wrong_kind ?h_A_check_new_kinds ?h_l_check_new_kinds ?h_c_check_new_kinds ?h_k_check_new_kinds ?h_A_is_tie ?h_l_is_tie ?h_c_is_tie ?h_k_is_tie ?h_A_is_told ?h_l_is_told ?h_c_is_told ?h_k_is_told ?h_A_wrong_tie ?h_l_wrong_tie ?h_c_wrong_tie ?h_k_wrong_tie ?h_A_check_ties ?h_l_check_ties ?h_c_check_ties ?h_k_check_ties ?h_A_lump_around ?h_l_lump_around ?h_c_lump_around ?h_k_lump_around ?h_A_near_outside ?h_l_near_outside ?h_c_near_outside ?h_k_near_outside ?h_A_cut_of ?h_l_cut_of ?h_c_cut_of ?h_k_cut_of ?h_A_subsets ?h_l_subsets ?h_c_subsets ?h_k_subsets ?h_A_cuts_of ?h_l_cuts_of ?h_c_cuts_of ?h_k_cuts_of ?h_A_place_of ?h_l_place_of ?h_c_place_of ?h_k_place_of ?h_fi_Rule___init__ ?h_if_Rule___init__ ?h_l_Rule___init__ ?h_c_Rule___init__ ?h_k_Rule___init__ ?h_mk_Rule ?h_kc_Rule ?h_fi_Rule___sub__ ?h_if_Rule___sub__ ?h_l_Rule___sub__ ?h_c_Rule___sub__ ?h_k_Rule___sub__ ?h_A__law_draw ?h_l__law_draw ?h_c__law_draw ?h_k__law_draw ?h_A__law_has ?h_l__law_has ?h_c__law_has ?h_k__law_has ?h_A__law_is_pair ?h_l__law_is_pair ?h_c__law_is_pair ?h_k__law_is_pair ?h_A__law_links ?h_l__law_links ?h_c__law_links ?h_k__law_links ?h_A__law_names ?h_l__law_names ?h_c__law_names ?h_k__law_names ?h_fi_Rule___contains__ ?h_if_Rule___contains__ ?h_l_Rule___contains__ ?h_c_Rule___contains__ ?h_k_Rule___contains__ ?h_fi_Rule___add__ ?h_if_Rule___add__ ?h_l_Rule___add__ ?h_c_Rule___add__ ?h_k_Rule___add__ ?h_fi_Rule___len__ ?h_if_Rule___len__ ?h_l_Rule___len__ ?h_c_Rule___len__ ?h_k_Rule___len__ ?h_fi_Rule___bool__ ?h_if_Rule___bool__ ?h_l_Rule___bool__ ?h_c_Rule___bool__ ?h_k_Rule___bool__ ?h_fi_Rule___eq__ ?h_if_Rule___eq__ ?h_l_Rule___eq__ ?h_c_Rule___eq__ ?h_k_Rule___eq__ ?h_fi_Rule___str__ ?h_if_Rule___str__ ?h_l_Rule___str__ ?h_c_Rule___str__ ?h_k_Rule___str__ ?h_A__law_says ?h_l__law_says ?h_c__law_says ?h_k__law_says ?h_A__law_tied ?h_l__law_tied ?h_c__law_tied ?h_k__law_tied ?h_A__law_right ?h_l__law_right ?h_c__law_right ?h_k__law_right ?h_A_law ?h_l_law ?h_c_law ?h_k_law ?h_z_len ?h_z_min ?h_z_max ?h_z_range ?h_z_abs ?h_z_int ?h_sf_Rule ?h_hu_Rule ?h_hr_Rule___add__ ?h_h1_Rule___add__ ?h_h2_Rule___add__ ?h_hr_Rule___sub__ ?h_h1_Rule___sub__ ?h_h2_Rule___sub__ ?h_z_list ?h_z_tuple ?h_nA_Rule_borders ?h_nA_Rule_lines ?h_nA_Rule_links ?h_nA_Rule_sorts ?h_z_isinstance ?h_z_enumerate ?h_u_MOST_KINDS_ ?h_R_MOST_KINDS ?h_u_LETTERS_ ?h_R_LETTERS ?h_u_DIGITS_ ?h_R_DIGITS ?h_z_all ?h_z_str ?h_u_LONGEST_NAME_ ?h_R_LONGEST_NAME ?h_z_any ?h_z_sorted ?h_z_set ?h_z_divmod ?h_z_repr ?h_ic_Rule ?h_mo_Rule ?h_is_Rule ?h_ty_Rule ?h_gx_Rule ?h_gt_Rule ?h_b0_Rule ?h_b1_Rule ?h_b2_Rule ?h_b3_Rule ?h_b4_Rule ?h_b5_Rule ?h_b6_Rule ?h_d1_Rule___init__ ?h_d2_Rule___init__ ?h_d3_Rule___init__ ?h_d4_Rule___init__ ?h_d5_Rule___init__
    (case h_a_Rule => k_is)
    (case h_pg_Rule => k_is)
    (case h_hd_Rule => k_is)
    (case h_po_Rule => k_is)
    (case h_sa_Rule => k_is)
    (case h_a_InvalidKinds => k_is)
    (case h_a_InvalidTies => k_is)
    (case h_a_WrongValue => k_is)
    (case h_is_InvalidKinds => k_is)
    (case h_ty_InvalidKinds => k_is)
    (case h_is_InvalidTies => k_is)
    (case h_ty_InvalidTies => k_is)
    (case h_is_WrongValue => k_is)
    (case h_ty_WrongValue => k_is)
    (case h_x_InvalidKinds => k_is)
    (case h_sa_InvalidKinds => k_is)
    (case h_eb_InvalidKinds => k_is)
    (case h_kc_InvalidKinds => k_is)
    (case h_no_InvalidKinds_index => k_is)
    (case h_fi_InvalidKinds___init__ => k_is)
    (case h_ti_InvalidKinds___init__ => k_is)
    (case h_l_InvalidKinds___init__ => k_is)
    (case h_c_InvalidKinds___init__ => k_is)
    (case h_k_InvalidKinds___init__ => k_is)
    (case h_x_InvalidTies => k_is)
    (case h_sa_InvalidTies => k_is)
    (case h_eb_InvalidTies => k_is)
    (case h_kc_InvalidTies => k_is)
    (case h_no_InvalidTies_index => k_is)
    (case h_fi_InvalidTies___init__ => k_is)
    (case h_ti_InvalidTies___init__ => k_is)
    (case h_l_InvalidTies___init__ => k_is)
    (case h_c_InvalidTies___init__ => k_is)
    (case h_k_InvalidTies___init__ => k_is)
    (case h_A__law_purse => k_is)
    (case h_l__law_purse => k_is)
    (case h_c__law_purse => k_is)
    (case h_k__law_purse => k_is)
    (case h_A_is_name => k_is)
    (case h_l_is_name => k_is)
    (case h_c_is_name => k_is)
    (case h_k_is_name => k_is)
    (case h_A_wrong_kind => k_is)
    (case h_l_wrong_kind => k_is)
    (case h_c_wrong_kind => k_is)
    (case h_k_wrong_kind => k_is)
    (case h_A_check_new_kinds => k_is)
    (case h_l_check_new_kinds => k_is)
    (case h_c_check_new_kinds => k_is)
    (case h_k_check_new_kinds => k_is)
    (case h_A_is_tie => k_is)
    (case h_l_is_tie => k_is)
    (case h_c_is_tie => k_is)
    (case h_k_is_tie => k_is)
    (case h_A_is_told => k_is)
    (case h_l_is_told => k_is)
    (case h_c_is_told => k_is)
    (case h_k_is_told => k_is)
    (case h_A_wrong_tie => k_is)
    (case h_l_wrong_tie => k_is)
    (case h_c_wrong_tie => k_is)
    (case h_k_wrong_tie => k_is)
    (case h_A_check_ties => k_is)
    (case h_l_check_ties => k_is)
    (case h_c_check_ties => k_is)
    (case h_k_check_ties => k_is)
    (case h_A_lump_around => k_is)
    (case h_l_lump_around => k_is)
    (case h_c_lump_around => k_is)
    (case h_k_lump_around => k_is)
    (case h_A_near_outside => k_is)
    (case h_l_near_outside => k_is)
    (case h_c_near_outside => k_is)
    (case h_k_near_outside => k_is)
    (case h_A_cut_of => k_is)
    (case h_l_cut_of => k_is)
    (case h_c_cut_of => k_is)
    (case h_k_cut_of => k_is)
    (case h_A_subsets => k_is)
    (case h_l_subsets => k_is)
    (case h_c_subsets => k_is)
    (case h_k_subsets => k_is)
    (case h_A_cuts_of => k_is)
    (case h_l_cuts_of => k_is)
    (case h_c_cuts_of => k_is)
    (case h_k_cuts_of => k_is)
    (case h_A_place_of => k_is)
    (case h_l_place_of => k_is)
    (case h_c_place_of => k_is)
    (case h_k_place_of => k_is)
    (case h_fi_Rule___init__ => k_is)
    (case h_if_Rule___init__ => k_is)
    (case h_l_Rule___init__ => k_is)
    (case h_c_Rule___init__ => k_is)
    (case h_k_Rule___init__ => k_is)
    (case h_mk_Rule => k_is)
    (case h_kc_Rule => k_is)
    (case h_fi_Rule___sub__ => k_is)
    (case h_if_Rule___sub__ => k_is)
    (case h_l_Rule___sub__ => k_is)
    (case h_c_Rule___sub__ => k_is)
    (case h_k_Rule___sub__ => k_is)
    (case h_A__law_draw => k_is)
    (case h_l__law_draw => k_is)
    (case h_c__law_draw => k_is)
    (case h_k__law_draw => k_is)
    (case h_A__law_has => k_is)
    (case h_l__law_has => k_is)
    (case h_c__law_has => k_is)
    (case h_k__law_has => k_is)
    (case h_A__law_is_pair => k_is)
    (case h_l__law_is_pair => k_is)
    (case h_c__law_is_pair => k_is)
    (case h_k__law_is_pair => k_is)
    (case h_A__law_links => k_is)
    (case h_l__law_links => k_is)
    (case h_c__law_links => k_is)
    (case h_k__law_links => k_is)
    (case h_A__law_names => k_is)
    (case h_l__law_names => k_is)
    (case h_c__law_names => k_is)
    (case h_k__law_names => k_is)
    (case h_fi_Rule___contains__ => k_is)
    (case h_if_Rule___contains__ => k_is)
    (case h_l_Rule___contains__ => k_is)
    (case h_c_Rule___contains__ => k_is)
    (case h_k_Rule___contains__ => k_is)
    (case h_fi_Rule___add__ => k_is)
    (case h_if_Rule___add__ => k_is)
    (case h_l_Rule___add__ => k_is)
    (case h_c_Rule___add__ => k_is)
    (case h_k_Rule___add__ => k_is)
    (case h_fi_Rule___len__ => k_is)
    (case h_if_Rule___len__ => k_is)
    (case h_l_Rule___len__ => k_is)
    (case h_c_Rule___len__ => k_is)
    (case h_k_Rule___len__ => k_is)
    (case h_fi_Rule___bool__ => k_is)
    (case h_if_Rule___bool__ => k_is)
    (case h_l_Rule___bool__ => k_is)
    (case h_c_Rule___bool__ => k_is)
    (case h_k_Rule___bool__ => k_is)
    (case h_fi_Rule___eq__ => k_is)
    (case h_if_Rule___eq__ => k_is)
    (case h_l_Rule___eq__ => k_is)
    (case h_c_Rule___eq__ => k_is)
    (case h_k_Rule___eq__ => k_is)
    (case h_fi_Rule___str__ => k_is)
    (case h_if_Rule___str__ => k_is)
    (case h_l_Rule___str__ => k_is)
    (case h_c_Rule___str__ => k_is)
    (case h_k_Rule___str__ => k_is)
    (case h_A__law_says => k_is)
    (case h_l__law_says => k_is)
    (case h_c__law_says => k_is)
    (case h_k__law_says => k_is)
    (case h_A__law_tied => k_is)
    (case h_l__law_tied => k_is)
    (case h_c__law_tied => k_is)
    (case h_k__law_tied => k_is)
    (case h_A__law_right => k_is)
    (case h_l__law_right => k_is)
    (case h_c__law_right => k_is)
    (case h_k__law_right => k_is)
    (case h_A_law => k_is)
    (case h_l_law => k_is)
    (case h_c_law => k_is)
    (case h_k_law => k_is)
    (case h_z_len => k_is)
    (case h_z_min => k_is)
    (case h_z_max => k_is)
    (case h_z_range => k_is)
    (case h_z_abs => k_is)
    (case h_z_int => k_is)
    (case h_sf_Rule => k_is)
    (case h_hu_Rule => k_is)
    (case h_hr_Rule___add__ => k_is)
    (case h_h1_Rule___add__ => k_is)
    (case h_h2_Rule___add__ => k_is)
    (case h_hr_Rule___sub__ => k_is)
    (case h_h1_Rule___sub__ => k_is)
    (case h_h2_Rule___sub__ => k_is)
    (case h_z_list => k_is)
    (case h_z_tuple => k_is)
    (case h_nA_Rule_borders => k_is)
    (case h_nA_Rule_lines => k_is)
    (case h_nA_Rule_links => k_is)
    (case h_nA_Rule_sorts => k_is)
    (case h_z_isinstance => k_is)
    (case h_z_enumerate => k_is)
    (case h_u_MOST_KINDS_ => k_is)
    (case h_R_MOST_KINDS => exact ⟨_, rfl⟩)
    (case h_u_LETTERS_ => k_is)
    (case h_R_LETTERS => exact ⟨_, rfl⟩)
    (case h_u_DIGITS_ => k_is)
    (case h_R_DIGITS => exact ⟨_, rfl⟩)
    (case h_z_all => k_is)
    (case h_z_str => k_is)
    (case h_u_LONGEST_NAME_ => k_is)
    (case h_R_LONGEST_NAME => exact ⟨_, rfl⟩)
    (case h_z_any => k_is)
    (case h_z_sorted => k_is)
    (case h_z_set => k_is)
    (case h_z_divmod => k_is)
    (case h_z_repr => k_is)
    (case h_ic_Rule => k_is)
    (case h_mo_Rule => k_is)
    (case h_is_Rule => k_is)
    (case h_ty_Rule => k_is)
    (case h_gx_Rule => k_is)
    (case h_gt_Rule => k_is)
    (case h_b0_Rule => k_is)
    (case h_b1_Rule => k_is)
    (case h_b2_Rule => k_is)
    (case h_b3_Rule => k_is)
    (case h_b4_Rule => k_is)
    (case h_b5_Rule => k_is)
    (case h_b6_Rule => k_is)
    (case h_d1_Rule___init__ => k_is)
    (case h_d2_Rule___init__ => exact rfl)
    (case h_d3_Rule___init__ => k_is)
    (case h_d4_Rule___init__ => exact rfl)
    (case h_d5_Rule___init__ => exact rfl)

