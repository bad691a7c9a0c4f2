import PyProof.Rows.All
import Wide.All
import OpenK.AllK
import Wide.FinOn
import HandS.ForMost
import HandS.ForExc
import HandS.SortInts
import HandS.TupSets
import HandS.SetFor
import HandS.IsInst
import HandS.More
import HandS.TupAny
import HandS.Deep
import HandS.ExcIs
import HandS.Flow
import HandS.Small
import HandS.WordsExc
import PySem.Challenge.RW_atonce_k03_units_posted
set_option Elab.async false
set_option linter.all false
section
/-! LCore: plain Lean. Values as trees, a mini syntax, and what a run of it asks (weakest preconditions). -/
set_option linter.all false
namespace LL

inductive Tg where
  | stand | move | help
  deriving DecidableEq
inductive Ex where
  | noPlace | noSide | crowded | noUnit | outOfReach
  deriving DecidableEq
inductive Cl where
  | map | board | orders | turn
  deriving DecidableEq
inductive Fd where
  | size | rows | chart | sides | board | given | steps | closed | out
  deriving DecidableEq

/-- a value as a tree; obj: an object by its address; scr: the script; hid: a list being made -/
inductive D where
  | non | bl (b : Bool) | int (i : Int) | tg (t : Tg) | tup (ds : List D) | lst (ds : List D)
  | dic (kvs : List (Int × D)) | obj (a : Nat) | exc (x : Ex) | scr (ns : List Int) | hid

mutual
/-- no list and no dict in it -/
def D.nc : D → Bool
  | .tup ds => D.ncs ds
  | .lst _ => false
  | .dic _ => false
  | .scr _ => false
  | .hid => false
  | _ => true
def D.ncs : List D → Bool
  | [] => true
  | d :: ds => d.nc && D.ncs ds
end
mutual
/-- no exception in it -/
def D.nox : D → Bool
  | .exc _ => false
  | .tup ds => D.noxs ds
  | .lst ds => D.noxs ds
  | .dic ks => D.noxk ks
  | _ => true
def D.noxs : List D → Bool
  | [] => true
  | d :: ds => d.nox && D.noxs ds
def D.noxk : List (Int × D) → Bool
  | [] => true
  | (_, d) :: ks => d.nox && D.noxk ks
end
mutual
/-- may be compared: no objects, dicts; at most n levels -/
def D.plN : Nat → D → Bool
  | _, .non => true
  | _, .bl _ => true
  | _, .int _ => true
  | _, .tg _ => true
  | n + 1, .tup ds => D.plsN n ds
  | n + 1, .lst ds => D.plsN n ds
  | _, _ => false
def D.plsN : Nat → List D → Bool
  | _, [] => true
  | n, d :: ds => d.plN n && D.plsN n ds
end
abbrev D.pl (d : D) : Bool := d.plN 8
mutual
def D.eqv : D → D → Bool
  | .non, .non => true
  | .bl a, .bl b => a == b
  | .bl a, .int j => (if a then 1 else 0) == j
  | .int i, .bl b => i == (if b then 1 else 0)
  | .int i, .int j => i == j
  | .tg a, .tg b => decide (a = b)
  | .tup xs, .tup ys => D.eqvs xs ys
  | .lst xs, .lst ys => D.eqvs xs ys
  | _, _ => false
def D.eqvs : List D → List D → Bool
  | [], [] => true
  | x :: xs, y :: ys => D.eqv x y && D.eqvs xs ys
  | _, _ => false
end

/-- a dict of int keys -/
def dget (kvs : List (Int × D)) (k : Int) : Option D := (kvs.find? fun kv => decide (kv.1 = k)).map (·.2)
def dput (kvs : List (Int × D)) (k : Int) (d : D) : List (Int × D) :=
  if (kvs.any fun kv => decide (kv.1 = k)) then kvs.map (fun kv => if kv.1 = k then (kv.1, d) else kv) else kvs ++ [(k, d)]

/-- what a slot or a field holds: a value that nobody changes (y: made since the def's entry), or a list, a list of lists, a dict of its own -/
inductive PC where
  | val (d : D) (y : Bool)
  | lst (ds : List D)
  | mat (rows : List (List D))
  | dic (kvs : List (Int × D))
def PC.own : PC → Bool
  | .val _ _ => false
  | _ => true
def PC.nox : PC → Bool
  | .val d _ => d.nox
  | .lst ds => D.noxs ds
  | .mat rows => rows.all D.noxs
  | .dic ks => D.noxk ks
abbrev Env := List (Option PC)
def Env.nox (env : Env) : Bool := env.all fun o => match o with
  | some pc => pc.nox
  | none => true
structure Ob where
  c : Cl
  fs : List (Fd × PC)
abbrev Wd := Nat → Option Ob
def Wd.put (w : Wd) (p : Nat) (o : Ob) : Wd := fun q => if q = p then some o else w q
theorem Wd.put_same {w : Wd} {p : Nat} {o : Ob} : w.put p o p = some o := if_pos rfl
theorem Wd.put_ne {w : Wd} {p q : Nat} {o : Ob} (h : q ≠ p) : w.put p o q = w q := if_neg h
theorem Wd.put_put {w : Wd} {p : Nat} {o u : Ob} : (w.put p o).put p u = w.put p u := by
  funext q; unfold Wd.put; split <;> rfl
def fget (fs : List (Fd × PC)) (f : Fd) : Option PC := (fs.find? fun x => decide (x.1 = f)).map (·.2)
def fput (fs : List (Fd × PC)) (f : Fd) (x : PC) : List (Fd × PC) :=
  if (fs.any fun z => decide (z.1 = f)) then fs.map (fun z => if z.1 = f then (f, x) else z) else fs ++ [(f, x)]

/-- the value of an expression; z: no cell of it is a slot's own; y: its cells are made since the def's entry; f: it is a new list, nobody else's -/
structure R where
  d : D
  z : Bool
  y : Bool
  f : Bool
def R.zz (r : R) : Bool := r.z || r.d.nc
def R.yy (r : R) : Bool := r.y || r.d.nc
/-- a value at hand while an expression is reckoned -/
def R.own (r : R) : Bool := r.f && r.y && match r.d with
  | .lst ds => D.ncs ds
  | .dic _ => true
  | .hid => true
  | _ => false
def sc (d : D) : R := ⟨d, true, true, false⟩
def fr (d : D) : R := ⟨d, true, true, true⟩
def PC.toR : PC → R
  | .val d y => ⟨d, true, y, false⟩
  | .lst ds => ⟨.lst ds, false, true, false⟩
  | .mat rows => ⟨.lst (rows.map D.lst), false, true, false⟩
  | .dic kvs => ⟨.dic kvs, false, true, false⟩

inductive Bop where
  | add | sub | mul | fdiv | mod
inductive Cop where
  | lt | le | gt | ge | eq | ne | isIn | notIn
inductive Ty where
  | int | bool | list | tuple | str | ex (x : Ex) | valueError
inductive Bf where
  | len | sorted | list | min | max | int
def top : Nat := 16777216

def binop : Bop → D → D → (R → Prop) → Prop
  | .add, .int i, .int j, Q => Q (sc (.int (i + j)))
  | .add, .lst as, .lst bs, Q => as.length + bs.length ≤ top ∧ D.ncs as = true ∧ D.ncs bs = true ∧ Q (fr (.lst (as ++ bs)))
  | .sub, .int i, .int j, Q => Q (sc (.int (i - j)))
  | .mul, .int i, .int j, Q => ((-(2 ^ 64) < i ∧ i < 2 ^ 64) ∨ (-(2 ^ 64) < j ∧ j < 2 ^ 64)) ∧ Q (sc (.int (i * j)))
  | .mul, .lst as, .int k, Q => 0 ≤ k ∧ k ≤ 1000 ∧ as.length ≤ 1000 ∧ D.ncs as = true ∧ Q (fr (.lst (List.replicate k.toNat as).flatten))
  | .fdiv, .int i, .int j, Q => 0 < j ∧ j < 1073741824 ∧ Q (sc (.int (i / j)))
  | .mod, .int i, .int j, Q => 0 < j ∧ Q (sc (.int (i % j)))
  | _, _, _, _ => False
def cmpop : Cop → D → D → (Bool → Prop) → Prop
  | .lt, .int i, .int j, Q => Q (decide (i < j))
  | .le, .int i, .int j, Q => Q (decide (i ≤ j))
  | .gt, .int i, .int j, Q => Q (decide (j < i))
  | .ge, .int i, .int j, Q => Q (decide (j ≤ i))
  | .eq, a, b, Q => a.pl = true ∧ b.pl = true ∧ Q (D.eqv a b)
  | .ne, a, b, Q => a.pl = true ∧ b.pl = true ∧ Q (!D.eqv a b)
  | .isIn, x, .lst ds, Q => x.pl = true ∧ (D.lst ds).pl = true ∧ Q (ds.any fun z => D.eqv z x)
  | .isIn, .int k, .dic kvs, Q => Q (dget kvs k).isSome
  | .notIn, x, .lst ds, Q => x.pl = true ∧ (D.lst ds).pl = true ∧ Q (!ds.any fun z => D.eqv z x)
  | .notIn, .int k, .dic kvs, Q => Q (!(dget kvs k).isSome)
  | _, _, _, _ => False
/-- an item; indexes from nought on alone -/
def at0 {α : Type} (xs : List α) (k : Int) : Option α := if 0 ≤ k then xs[k.toNat]? else none
def idxop (a : R) : D → (R → Prop) → Prop
  | .int k, Q => match a.d with
    | .lst ds => match at0 ds k with
      | some d => Q ⟨d, a.z, a.y, false⟩
      | none => False
    | .tup ds => match at0 ds k with
      | some d => Q ⟨d, a.z, a.y, false⟩
      | none => False
    | .scr ns => match at0 ns k with
      | some n => Q (sc (.int n))
      | none => False
    | _ => False
  | _, _ => False
def isiD : D → Ty → Option Bool
  | .non, .ex _ => none
  | .non, .valueError => none
  | .non, _ => some false
  | .bl _, .int => some true
  | .bl _, .bool => some true
  | .bl _, .list => some false
  | .bl _, .tuple => some false
  | .bl _, .str => some false
  | .int _, .int => some true
  | .int _, .bool => some false
  | .int _, .list => some false
  | .int _, .tuple => some false
  | .int _, .str => some false
  | .tg _, .int => some false
  | .tg _, .bool => some false
  | .tg _, .list => some false
  | .tg _, .tuple => some false
  | .tg _, .str => some true
  | .tup _, .int => some false
  | .tup _, .bool => some false
  | .tup _, .list => some false
  | .tup _, .tuple => some true
  | .tup _, .str => some false
  | .lst _, .int => some false
  | .lst _, .bool => some false
  | .lst _, .list => some true
  | .lst _, .tuple => some false
  | .lst _, .str => some false
  | .exc x, .ex y => some (decide (x = y))
  | .exc _, .valueError => some true
  | _, _ => none

/-- the ints of a list of ints -/
def intsOf : List D → Option (List Int)
  | [] => some []
  | .int i :: ds => (intsOf ds).map (i :: ·)
  | _ :: _ => none
def insI (x : Int) : List Int → List Int
  | [] => [x]
  | y :: ys => if x ≤ y then x :: y :: ys else y :: insI x ys
def sortI : List Int → List Int
  | [] => []
  | x :: xs => insI x (sortI xs)
/-- the rows of a list of tuples of ints -/
def rowsOf : List D → Option (List (List Int))
  | [] => some []
  | .tup ds :: r => match intsOf ds, rowsOf r with
    | some x, some xs => some (x :: xs)
    | _, _ => none
  | _ :: _ => none
def lexLe : List Int → List Int → Bool
  | [], _ => true
  | _ :: _, [] => false
  | x :: xs, y :: ys => if x < y then true else if x = y then lexLe xs ys else false
def insR (x : List Int) : List (List Int) → List (List Int)
  | [] => [x]
  | y :: ys => if lexLe x y then x :: y :: ys else y :: insR x ys
def sortR : List (List Int) → List (List Int)
  | [] => []
  | x :: xs => insR x (sortR xs)
def minI (x : Int) : List Int → Int
  | [] => x
  | y :: ys => minI (if y < x then y else x) ys
def maxI (x : Int) : List Int → Int
  | [] => x
  | y :: ys => maxI (if y > x then y else x) ys
def lenOf : D → Option Nat
  | .lst ds => some ds.length
  | .tup ds => some ds.length
  | .scr ns => some ns.length
  | _ => none

def blt : Bf → List D → (R → Prop) → Prop
  | .len, [x], Q => match lenOf x with
    | some n => Q (sc (.int n))
    | none => False
  | .list, [.lst ds], Q => D.ncs ds = true ∧ Q (fr (.lst ds))
  | .sorted, [.lst ds], Q => ∃ ns, intsOf ds = some ns ∧ Q (fr (.lst ((sortI ns).map D.int)))
  | .sorted, [.dic kvs], Q => kvs.length < 64 ∧ Q (fr (.lst ((sortI (kvs.map (·.1))).map D.int)))
  | .min, [.int i, .int j], Q => Q (sc (.int (if j < i then j else i)))
  | .max, [.int i, .int j], Q => Q (sc (.int (if j > i then j else i)))
  | .min, [.lst ds], Q => ∃ n ns, intsOf ds = some (n :: ns) ∧ Q (sc (.int (minI n ns)))
  | .max, [.lst ds], Q => ∃ n ns, intsOf ds = some (n :: ns) ∧ Q (sc (.int (maxI n ns)))
  | .int, [.bl b], Q => Q (sc (.int (if b then 1 else 0)))
  | .int, [.int i], Q => Q (sc (.int i))
  | _, _, _ => False

/-- truth, for «not» -/
def truth : D → Option Bool
  | .bl b => some b
  | .lst ds => some (!ds.isEmpty)
  | _ => none

variable (Fn : Type)
mutual
inductive ME where
  | var (i : Nat)
  | cst (d : D)
  | bin (o : Bop) (a b : ME)
  | cmp (o : Cop) (a b : ME)
  | chain (o p : Cop) (a b c : ME)
  | isN (a : ME) | notN (a : ME)
  | and (a b : ME) | or (a b : ME) | not (a : ME)
  | idx (a i : ME)
  | upTo (a : ME) (n : Nat) | from1 (a : ME)
  | attr (a : ME) (f : Fd)
  | attrIx (a : ME) (f : Fd) (i : Nat)
  | attrIx2 (a : ME) (f : Fd) (i j : Nat)
  | attrGet (a : ME) (f : Fd) (k : Nat) (t : Tg)
  | tup (es : MEs) | lst (es : MEs)
  | comp (elt : ME) (i : Nat) (it : ME) (c : ME)
  | compR (elt : ME) (i : Nat) (n : ME) (c : ME)
  | call (f : Fn) (es : MEs)
  | new (c : Cl) (f : Fn) (es : MEs)
  | meth (c : Cl) (f : Fn) (o : ME) (es : MEs)
  | blt (b : Bf) (es : MEs)
  | isi (a : ME) (t : Ty)
  | count (a b : ME)
  | dgetD (a k dd : ME)
inductive MEs where
  | nil
  | cons (e : ME) (es : MEs)
end
inductive MS where
  | skip
  | seq (a b : MS)
  | frz (i : Nat)                                    -- a ghost: the slot's own list becomes a value
  | asg (i : Nat) (e : ME Fn)
  | asgL (i : Nat) (e : ME Fn)                       -- x = a new list, the slot's own
  | asgD (i : Nat)                                   -- x = {}
  | asgM (i : Nat) (d : D) (j : Nat) (n : Nat)        -- x = [[d] * n for j in range(n)], n a slot
  | setIx (i : Nat) (k e : ME Fn)
  | setIx2 (i : Nat) (k l e : ME Fn)
  | setAt (o : ME Fn) (f : Fd) (e : ME Fn)
  | setAtL (o : ME Fn) (f : Fd) (e : ME Fn)
  | setAtD (o : ME Fn) (f : Fd)
  | setAtM (o : Nat) (f : Fd) (d : D) (j : Nat) (n : Nat)
  | setFIx (o : ME Fn) (f : Fd) (k : Nat) (e : ME Fn)
  | setFIx2 (o : ME Fn) (f : Fd) (k l : Nat) (e : ME Fn)
  | expr (e : ME Fn)
  | app (i : Nat) (e : ME Fn)
  | rev (i : Nat) | clr (i : Nat)
  | appT (a e : ME Fn) | clrT (a : ME Fn)
  | ifS (c : ME Fn) (a b : MS)
  | forR (i : Nat) (lo hi : ME Fn) (body : MS)
  | forD (i : Nat) (hi : ME Fn) (body : MS)          -- range(hi, -1, -1)
  | forL (i : Nat) (e : ME Fn) (body : MS)
  | forT (i : Nat) (e : ME Fn) (body : MS)           -- over a tuple
  | whileT (body : MS)
  | ret (e : ME Fn) | retN
  | raise (x : Ex)
  | tryE (body : MS) (i : Nat) (suite : MS)
end LL
end
section
/-! LRead: the readings. -/
set_option linter.all false
namespace LL

abbrev LSp := List D → Wd → (D → Wd → Prop) → (Ex → Wd → Prop) → Prop
abbrev VK := R → Wd → Prop
abbrev XKd := Ex → Wd → Prop

/-! by what a thing is -/
def D.onBl : D → (Bool → Prop) → Prop
  | .bl b, P => P b
  | _, _ => False
def D.onInt : D → (Int → Prop) → Prop
  | .int i, P => P i
  | _, _ => False
def D.onLst : D → (List D → Prop) → Prop
  | .lst ds, P => P ds
  | _, _ => False
def D.onTup : D → (List D → Prop) → Prop
  | .tup ds, P => P ds
  | _, _ => False
def D.onScr : D → (List Int → Prop) → Prop
  | .scr ns, P => P ns
  | _, _ => False
def D.onDic : D → (List (Int × D) → Prop) → Prop
  | .dic ks, P => P ks
  | _, _ => False
def D.onObj : D → (Nat → Prop) → Prop
  | .obj a, P => P a
  | _, _ => False
def D.isNon : D → Bool
  | .non => true
  | _ => false
def onSome {α : Type} : Option α → (α → Prop) → Prop
  | some x, P => P x
  | none, _ => False
def onSlot (env : Env) (i : Nat) (P : PC → Prop) : Prop := onSome env[i]? fun o => onSome o P
def PC.onVal : PC → (D → Prop) → Prop
  | .val d _, P => P d
  | _, _ => False
def PC.onLst : PC → (List D → Prop) → Prop
  | .lst ds, P => P ds
  | _, _ => False
def PC.onMat : PC → (List (List D) → Prop) → Prop
  | .mat rows, P => P rows
  | _, _ => False
def PC.onDic : PC → (List (Int × D) → Prop) → Prop
  | .dic ks, P => P ks
  | _, _ => False
/-- x[k] = d, of a list or a dict of one's own: what it is then -/
def PC.setK : PC → Int → D → (PC → Prop) → Prop
  | .lst ds, k, d, P => 0 ≤ k ∧ k < (ds.length : Int) ∧ P (.lst (ds.set k.toNat d))
  | .dic ks, k, d, P => ks.length < 1000 ∧ P (.dic (dput ks k d))
  | _, _, _, _ => False
def onFld (w : Wd) (d : D) (f : Fd) (P : Nat → Ob → PC → Prop) : Prop := d.onObj fun p => onSome (w p) fun ob => onSome (fget ob.fs f) fun pc => P p ob pc
def onOb (w : Wd) (d : D) (P : Nat → Ob → Prop) : Prop := d.onObj fun p => onSome (w p) fun ob => P p ob

def freeSlot (env : Env) (i : Nat) : Prop := ∀ pc, env[i]? = some (some pc) → pc.own = false
def slotInt (env : Env) (i : Nat) (P : Int → Prop) : Prop := onSlot env i fun pc => pc.toR.d.onInt P
section
variable {Fn : Type} (Phi : Fn → LSp)

def compRead (body : Nat → D → Option D → Prop) (items : List D) (Q : R → Prop) : Prop :=
  items.length ≤ top ∧ ∃ g : Nat → Option D, (∀ m x, items[m]? = some x → body m x (g m)) ∧ Q (fr (.lst ((List.range items.length).filterMap g)))
mutual
def lev : ME Fn → Env → Wd → VK → XKd → Prop
  | .var i, env, w, Q, _ => onSlot env i fun pc => Q pc.toR w
  | .cst d, _, w, Q, _ => Q (sc d) w
  | .bin o a b, env, w, Q, E => lev a env w (fun x w1 => lev b env w1 (fun y w2 => binop o x.d y.d fun r => Q r w2) E) E
  | .cmp o a b, env, w, Q, E => lev a env w (fun x w1 => lev b env w1 (fun y w2 => cmpop o x.d y.d fun r => Q (sc (.bl r)) w2) E) E
  | .chain o p a b c, env, w, Q, E => lev a env w (fun x w1 => lev b env w1 (fun y w2 => cmpop o x.d y.d fun r =>
      (r = true → lev c env w2 (fun z w3 => cmpop p y.d z.d fun r2 => Q (sc (.bl r2)) w3) E) ∧ (r = false → Q (sc (.bl false)) w2)) E) E
  | .isN a, env, w, Q, E => lev a env w (fun x w1 => Q (sc (.bl x.d.isNon)) w1) E
  | .notN a, env, w, Q, E => lev a env w (fun x w1 => Q (sc (.bl (!x.d.isNon))) w1) E
  | .and a b, env, w, Q, E => lev a env w (fun x w1 => x.d.onBl fun c => (c = true → lev b env w1 Q E) ∧ (c = false → Q (sc (.bl false)) w1)) E
  | .or a b, env, w, Q, E => lev a env w (fun x w1 => x.d.onBl fun c => (c = true → Q (sc (.bl true)) w1) ∧ (c = false → lev b env w1 Q E)) E
  | .not a, env, w, Q, E => lev a env w (fun x w1 => onSome (truth x.d) fun c => Q (sc (.bl (!c))) w1) E
  | .idx a i, env, w, Q, E => lev a env w (fun x w1 => lev i env w1 (fun y w2 => idxop x y.d fun r => Q r w2) E) E
  | .upTo a n, env, w, Q, E => lev a env w (fun x w1 => x.d.onScr fun ns => Q (fr (.lst ((ns.take n).map D.int))) w1) E
  | .from1 a, env, w, Q, E => lev a env w (fun x w1 => x.d.onTup fun ds => D.ncs ds = true ∧ Q (sc (.tup (ds.drop 1))) w1) E
  | .attr a f, env, w, Q, E => lev a env w (fun x w1 => onFld w1 x.d f fun _ _ pc => pc.onVal fun d => Q ⟨d, true, false, false⟩ w1) E
  | .attrIx a f i, env, w, Q, E => lev a env w (fun x w1 => onFld w1 x.d f fun _ _ pc => pc.onLst fun ds =>
      slotInt env i fun k => onSome (at0 ds k) fun d => Q (sc d) w1) E
  | .attrIx2 a f i j, env, w, Q, E => lev a env w (fun x w1 => onFld w1 x.d f fun _ _ pc => pc.onMat fun rows =>
      slotInt env i fun k => onSome (at0 rows k) fun ds => slotInt env j fun l => onSome (at0 ds l) fun d => Q (sc d) w1) E
  | .attrGet a f k t, env, w, Q, E => lev a env w (fun x w1 => onFld w1 x.d f fun _ _ pc => pc.onDic fun ks =>
      slotInt env k fun k => Q (sc ((dget ks k).getD (.tup [.tg t]))) w1) E
  | .tup es, env, w, Q, E => levs es env w (fun rs w1 => rs.length ≤ 1000 ∧ Q ⟨.tup (rs.map (·.d)), rs.all R.zz, rs.all R.yy, false⟩ w1) E
  | .lst es, env, w, Q, E => levs es env w (fun rs w1 => rs.length ≤ 1000 ∧ Q ⟨.lst (rs.map (·.d)), rs.all R.zz, rs.all R.yy, true⟩ w1) E
  | .comp elt i it c, env, w, Q, E => freeSlot env i ∧ lev it env w (fun x w1 => x.d.onLst fun ds => (x.z = true ∨ D.ncs ds = true) ∧
      compRead (fun m d o => lev c (env.set i (some (.val d false))) w1 (fun b w2 => w2 = w1 ∧ b.d.onBl fun t =>
          (t = true → lev elt (env.set i (some (.val d false))) w1 (fun r w3 => w3 = w1 ∧ r.zz = true ∧ r.yy = true ∧ o = some r.d) (fun _ _ => False)) ∧
          (t = false → o = none)) (fun _ _ => False)) ds fun r => Q r w1) E
  | .compR elt i n c, env, w, Q, E => freeSlot env i ∧ lev n env w (fun x w1 => x.d.onInt fun k => -1000 ≤ k ∧ k ≤ 1000 ∧
      compRead (fun m d o => lev c (env.set i (some (.val d true))) w1 (fun b w2 => w2 = w1 ∧ b.d.onBl fun t =>
          (t = true → lev elt (env.set i (some (.val d true))) w1 (fun r w3 => w3 = w1 ∧ r.zz = true ∧ r.yy = true ∧ o = some r.d) (fun _ _ => False)) ∧
          (t = false → o = none)) (fun _ _ => False)) ((List.range k.toNat).map fun m => D.int (m : Nat)) fun r => Q r w1) E
  | .call f es, env, w, Q, E => levs es env w (fun rs w1 => Phi f (rs.map (·.d)) w1 (fun d w2 => Q (fr d) w2) E) E
  | .new c f es, env, w, Q, E => levs es env w (fun rs w1 => ∀ p, w1 p = none → Phi f (.obj p :: rs.map (·.d)) (w1.put p ⟨c, []⟩) (fun d w2 => d = .non ∧ Q (sc (.obj p)) w2) (fun _ _ => False)) E
  | .meth c f o es, env, w, Q, E => lev o env w (fun x w1 => onOb w1 x.d fun p ob => ob.c = c ∧
      levs es env w1 (fun rs w2 => Phi f (x.d :: rs.map (·.d)) w2 (fun d w3 => Q (fr d) w3) E) E) E
  | .blt b es, env, w, Q, E => levs es env w (fun rs w1 => blt b (rs.map (·.d)) fun r => Q r w1) E
  | .isi a t, env, w, Q, E => lev a env w (fun x w1 => onSome (isiD x.d t) fun b => Q (sc (.bl b)) w1) E
  | .count a b, env, w, Q, E => lev a env w (fun x w1 => x.d.onLst fun ds => lev b env w1 (fun y w2 => y.d.onInt fun k => onSome (intsOf ds) fun ns => Q (sc (.int (ns.count k : Nat))) w2) E) E
  | .dgetD a k dd, env, w, Q, E => lev a env w (fun x w1 => x.d.onDic fun ks => lev k env w1 (fun y w2 => y.d.onInt fun k =>
      lev dd env w2 (fun z w3 => z.d.nc = true ∧ Q (sc ((dget ks k).getD z.d)) w3) E) E) E
def levs : MEs Fn → Env → Wd → (List R → Wd → Prop) → XKd → Prop
  | .nil, _, w, Q, _ => Q [] w
  | .cons e es, env, w, Q, E => lev e env w (fun r w1 => levs es env w1 (fun rs w2 => Q (r :: rs) w2) E) E
end

/-- what is wanted behind a statement; an exception with the slots as they are when it flies -/
structure Ends where
  nx : Env → Wd → Prop
  rt : R → Wd → Prop
  ex : Ex → Env → Wd → Prop
abbrev Ends.xk (K : Ends) (env : Env) : XKd := fun x w' => K.ex x env w'
def newFld (ob : Ob) (f : Fd) (x : PC) (P : Ob → Prop) : Prop := ob.fs.length < 10 ∧ fget ob.fs f = none ∧ P ⟨ob.c, fput ob.fs f x⟩
def square (k : Int) (d : D) : List (List D) := List.replicate k.toNat (List.replicate k.toNat d)

def les : MS Fn → Ends → Env → Wd → Prop
  | .skip, K, env, w => K.nx env w
  | .seq a b, K, env, w => les a { K with nx := fun env' w' => les b K env' w' } env w
  | .frz i, K, env, w => onSlot env i fun pc => pc.onLst fun ds => K.nx (env.set i (some (.val (.lst ds) true))) w
  | .asg i e, K, env, w => lev Phi e env w (fun r w1 => r.zz = true ∧ K.nx (env.set i (some (.val r.d r.yy))) w1) (K.xk env)
  | .asgL i e, K, env, w => lev Phi e env w (fun r w1 => r.f = true ∧ r.y = true ∧ r.d.onLst fun ds => D.ncs ds = true ∧ K.nx (env.set i (some (.lst ds))) w1) (K.xk env)
  | .asgD i, K, env, w => K.nx (env.set i (some (.dic []))) w
  | .asgM i d j n, K, env, w => d.nc = true ∧ freeSlot env j ∧ n ≠ j ∧ slotInt env n fun k => 0 ≤ k ∧ k ≤ 1000 ∧ K.nx (env.set i (some (.mat (square k d)))) w
  | .setIx i k e, K, env, w => lev Phi e env w (fun r w1 => r.d.nc = true ∧ onSlot env i fun pc => lev Phi k env w1 (fun y w2 => y.d.onInt fun k => pc.setK k r.d fun pc' => K.nx (env.set i (some pc')) w2) (K.xk env)) (K.xk env)
  | .setIx2 i k l e, K, env, w => lev Phi e env w (fun r w1 => r.d.nc = true ∧ onSlot env i fun pc => pc.onMat fun rows => lev Phi k env w1 (fun y w2 => y.d.onInt fun k => onSome (at0 rows k) fun ds =>
      lev Phi l env w2 (fun z w3 => z.d.onInt fun l => 0 ≤ l ∧ l < (ds.length : Int) ∧ K.nx (env.set i (some (.mat (rows.set k.toNat (ds.set l.toNat r.d))))) w3) (K.xk env)) (K.xk env)) (K.xk env)
  | .setAt o f e, K, env, w => lev Phi e env w (fun r w1 => (r.own = true ∨ r.d.nc = true) ∧ lev Phi o env w1 (fun x w2 => onOb w2 x.d fun p ob => newFld ob f (.val r.d true) fun ob' => K.nx env (w2.put p ob')) (K.xk env)) (K.xk env)
  | .setAtL o f e, K, env, w => lev Phi e env w (fun r w1 => r.f = true ∧ r.y = true ∧ r.d.onLst fun ds => D.ncs ds = true ∧ lev Phi o env w1 (fun x w2 => onOb w2 x.d fun p ob => newFld ob f (.lst ds) fun ob' => K.nx env (w2.put p ob')) (K.xk env)) (K.xk env)
  | .setAtD o f, K, env, w => lev Phi o env w (fun x w2 => onOb w2 x.d fun p ob => newFld ob f (.dic []) fun ob' => K.nx env (w2.put p ob')) (K.xk env)
  | .setAtM o f d j n, K, env, w => d.nc = true ∧ freeSlot env j ∧ n ≠ j ∧ o ≠ j ∧ slotInt env n fun k => 0 ≤ k ∧ k ≤ 1000 ∧ onSlot env o fun pc => onOb w pc.toR.d fun p ob => newFld ob f (.mat (square k d)) fun ob' => K.nx env (w.put p ob')
  | .setFIx o f k e, K, env, w => lev Phi e env w (fun r w1 => r.d.nc = true ∧ lev Phi o env w1 (fun x w2 => onFld w2 x.d f fun p ob pc =>
      slotInt env k fun k => pc.setK k r.d fun pc' => K.nx env (w2.put p ⟨ob.c, fput ob.fs f pc'⟩)) (K.xk env)) (K.xk env)
  | .setFIx2 o f k l e, K, env, w => lev Phi e env w (fun r w1 => r.d.nc = true ∧ lev Phi o env w1 (fun x w2 => onFld w2 x.d f fun p ob pc => pc.onMat fun rows =>
      slotInt env k fun k => onSome (at0 rows k) fun ds => slotInt env l fun l => 0 ≤ l ∧ l < (ds.length : Int) ∧
        K.nx env (w2.put p ⟨ob.c, fput ob.fs f (.mat (rows.set k.toNat (ds.set l.toNat r.d)))⟩)) (K.xk env)) (K.xk env)
  | .expr e, K, env, w => lev Phi e env w (fun _ w1 => K.nx env w1) (K.xk env)
  | .app i e, K, env, w => onSlot env i fun pc => pc.onLst fun ds => lev Phi e env w (fun r w1 => r.d.nc = true ∧ ds.length < top ∧ K.nx (env.set i (some (.lst (ds ++ [r.d])))) w1) (K.xk env)
  | .rev i, K, env, w => onSlot env i fun pc => pc.onLst fun ds => K.nx (env.set i (some (.lst ds.reverse))) w
  | .clr i, K, env, w => onSlot env i fun pc => pc.onLst fun _ => K.nx (env.set i (some (.lst []))) w
  | .appT a e, K, env, w => lev Phi a env w (fun r w1 => r.f = true ∧ r.y = true ∧ r.d.onLst fun ds => D.ncs ds = true ∧ ds.length < top ∧ lev Phi e env w1 (fun _ w2 => K.nx env w2) (K.xk env)) (K.xk env)
  | .clrT a, K, env, w => lev Phi a env w (fun r w1 => r.f = true ∧ r.y = true ∧ r.d.onLst fun ds => D.ncs ds = true ∧ K.nx env w1) (K.xk env)
  | .ifS c a b, K, env, w => lev Phi c env w (fun r w1 => onSome (truth r.d) fun k => (k = true → les a K env w1) ∧ (k = false → les b K env w1)) (K.xk env)
  | .forR i lo hi body, K, env, w => lev Phi lo env w (fun r w1 => lev Phi hi env w1 (fun r2 w2 => r.d.onInt fun a => r2.d.onInt fun b => -1000 ≤ a ∧ a ≤ 1000 ∧ -1000 ≤ b ∧ b ≤ 1000 ∧
        ∃ Inv : Nat → Env → Wd → Prop, Inv 0 env w2 ∧
          (∀ m env w, m < (b - a).toNat → Inv m env w → les body { K with nx := Inv (m + 1) } (env.set i (some (.val (.int (a + m)) true))) w) ∧
          (∀ env w, Inv (b - a).toNat env w → K.nx env w)) (K.xk env)) (K.xk env)
  | .forD i hi body, K, env, w => lev Phi hi env w (fun r w1 => r.d.onInt fun a => -1 ≤ a ∧ a ≤ 1000 ∧ ∃ Inv : Nat → Env → Wd → Prop, Inv 0 env w1 ∧
          (∀ m env w, m < (a + 1).toNat → Inv m env w → les body { K with nx := Inv (m + 1) } (env.set i (some (.val (.int (a - m)) true))) w) ∧
          (∀ env w, Inv (a + 1).toNat env w → K.nx env w)) (K.xk env)
  | .forL i e body, K, env, w => lev Phi e env w (fun r w1 => r.z = true ∧ r.d.onLst fun ds => ∃ Inv : Nat → Env → Wd → Prop, Inv 0 env w1 ∧
          (∀ m d env w, ds[m]? = some d → Inv m env w → les body { K with nx := Inv (m + 1) } (env.set i (some (.val d (r.y || d.nc)))) w) ∧
          (∀ env w, Inv ds.length env w → K.nx env w)) (K.xk env)
  | .forT i e body, K, env, w => lev Phi e env w (fun r w1 => r.z = true ∧ r.d.onTup fun ds => ∃ Inv : Nat → Env → Wd → Prop, Inv 0 env w1 ∧
          (∀ m d env w, ds[m]? = some d → Inv m env w → les body { K with nx := Inv (m + 1) } (env.set i (some (.val d (r.y || d.nc)))) w) ∧
          (∀ env w, Inv ds.length env w → K.nx env w)) (K.xk env)
  | .whileT body, K, env, w => ∃ Inv : Nat → Env → Wd → Prop, (∃ m, Inv m env w) ∧
      ∀ m env w, Inv m env w → les body { K with nx := fun env' w' => ∃ m', m' < m ∧ Inv m' env' w' } env w
  | .ret e, K, env, w => lev Phi e env w (fun r w1 => K.rt r w1) (K.xk env)
  | .retN, K, env, w => K.rt (sc .non) w
  | .raise x, K, env, w => K.ex x env w
  | .tryE body i suite, K, env, w => les body { K with ex := fun x env' w' => les suite ⟨fun e2 w2 => w2 = w' ∧ Env.nox (e2.set i none) = true ∧ K.nx (e2.set i none) w2, fun _ _ => False, fun _ _ _ => False⟩ (env'.set i (some (.val (.exc x) true))) w' } env w
end

/-- the objects of w are those of w' too -/
def Wd.le (w w' : Wd) : Prop := ∀ p o, w p = some o → w' p = some o
/-- the wish at a def's end: what is handed back is not the callers'; objects may be forgotten -/
def defEnds (Q : D → Wd → Prop) (E : Ex → Wd → Prop) : Ends where
  nx := fun _ w => ∃ w', Wd.le w' w ∧ Q .non w'
  rt := fun r w => r.yy = true ∧ ∃ w', Wd.le w' w ∧ Q r.d w'
  ex := fun x _ w => ∃ w', Wd.le w' w ∧ E x w'
def parEnv (ds : List D) (n : Nat) : Env := ds.map (fun d => some (.val d false)) ++ List.replicate n none
/-- a def with this body, so many parameters and further slots keeps the contract S -/
def LOk {Fn : Type} (Phi : Fn → LSp) (body : MS Fn) (nPar nLoc : Nat) (S : LSp) : Prop :=
  ∀ ds w Q E, S ds w Q E → ds.length = nPar ∧ les Phi body (defEnds Q E) (parEnv ds nLoc) w
end LL
end
section
set_option linter.all false
/-! the program's defs as mini terms -/
namespace LL
def b_0 : MS Nat := (.seq (.setAt (.var 0) .size (.var 1)) (.setAtM 0 .rows (.bl false) 2 1))
def b_1 : MS Nat := (.ifS (.not (.chain .le .lt (.cst (.int 0)) (.var 1) (.attr (.var 0) .size))) (.raise .noPlace) .skip)
def b_2 : MS Nat := (.seq (.expr (.meth .map 1 (.var 0) (.cons (.var 1) .nil))) (.seq (.expr (.meth .map 1 (.var 0) (.cons (.var 2) .nil))) (.seq (.ifS (.cmp .eq (.var 1) (.var 2)) (.raise .outOfReach) .skip) (.seq (.setFIx2 (.var 0) .rows 1 2 (.cst (.bl true))) (.setFIx2 (.var 0) .rows 2 1 (.cst (.bl true)))))))
def b_3 : MS Nat := (.seq (.expr (.meth .map 1 (.var 0) (.cons (.var 1) .nil))) (.seq (.expr (.meth .map 1 (.var 0) (.cons (.var 2) .nil))) (.ret (.attrIx2 (.var 0) .rows 1 2))))
def b_4 : MS Nat := (.seq (.expr (.meth .map 1 (.var 0) (.cons (.var 1) .nil))) (.ret (.compR (.var 2) 2 (.attr (.var 0) .size) (.attrIx2 (.var 0) .rows 1 2))))
def b_5 : MS Nat := (.seq (.setAt (.var 0) .chart (.var 1)) (.setAtL (.var 0) .sides (.bin .mul (.lst (.cons (.cst .non) .nil)) (.attr (.var 1) .size))))
def b_6 : MS Nat := (.seq (.expr (.meth .map 1 (.attr (.var 0) .chart) (.cons (.var 1) .nil))) (.seq (.ifS (.not (.chain .le .le (.cst (.int 0)) (.var 2) (.cst (.int 7)))) (.raise .noSide) .skip) (.seq (.ifS (.notN (.attrIx (.var 0) .sides 1)) (.raise .crowded) .skip) (.setFIx (.var 0) .sides 1 (.var 2)))))
def b_7 : MS Nat := (.seq (.expr (.meth .map 1 (.attr (.var 0) .chart) (.cons (.var 1) .nil))) (.ret (.attrIx (.var 0) .sides 1)))
def b_8 : MS Nat := (.seq (.expr (.meth .map 1 (.attr (.var 0) .chart) (.cons (.var 1) .nil))) (.seq (.ifS (.isN (.attrIx (.var 0) .sides 1)) (.raise .noUnit) .skip) (.setFIx (.var 0) .sides 1 (.cst .non))))
def b_9 : MS Nat := (.ret (.compR (.tup (.cons (.var 1) (.cons (.attrIx (.var 0) .sides 1) .nil))) 1 (.attr (.attr (.var 0) .chart) .size) (.notN (.attrIx (.var 0) .sides 1))))
def b_10 : MS Nat := (.seq (.setAt (.var 0) .board (.var 1)) (.setAtD (.var 0) .given))
def b_11 : MS Nat := (.ifS (.isN (.meth .board 7 (.attr (.var 0) .board) (.cons (.var 1) .nil))) (.raise .noUnit) .skip)
def b_12 : MS Nat := (.seq (.expr (.meth .orders 11 (.var 0) (.cons (.var 1) .nil))) (.setFIx (.var 0) .given 1 (.tup (.cons (.cst (.tg .stand)) .nil))))
def b_13 : MS Nat := (.seq (.asg 3 (.attr (.attr (.var 0) .board) .chart)) (.seq (.expr (.meth .map 1 (.var 3) (.cons (.var 1) .nil))) (.seq (.expr (.meth .map 1 (.var 3) (.cons (.var 2) .nil))) (.seq (.expr (.meth .orders 11 (.var 0) (.cons (.var 1) .nil))) (.seq (.ifS (.not (.meth .map 3 (.var 3) (.cons (.var 1) (.cons (.var 2) .nil)))) (.raise .outOfReach) .skip) (.setFIx (.var 0) .given 1 (.tup (.cons (.cst (.tg .move)) (.cons (.var 2) .nil)))))))))
def b_14 : MS Nat := (.seq (.asg 4 (.attr (.attr (.var 0) .board) .chart)) (.seq (.forL 5 (.lst (.cons (.var 1) (.cons (.var 2) (.cons (.var 3) .nil)))) (.expr (.meth .map 1 (.var 4) (.cons (.var 5) .nil)))) (.seq (.expr (.meth .orders 11 (.var 0) (.cons (.var 1) .nil))) (.seq (.expr (.meth .orders 11 (.var 0) (.cons (.var 2) .nil))) (.seq (.ifS (.or (.cmp .eq (.var 2) (.var 1)) (.not (.meth .map 3 (.var 4) (.cons (.var 1) (.cons (.var 3) .nil))))) (.raise .outOfReach) .skip) (.seq (.ifS (.and (.cmp .ne (.var 3) (.var 2)) (.not (.meth .map 3 (.var 4) (.cons (.var 2) (.cons (.var 3) .nil))))) (.raise .outOfReach) .skip) (.setFIx (.var 0) .given 1 (.tup (.cons (.cst (.tg .help)) (.cons (.var 2) (.cons (.var 3) .nil)))))))))))
def b_15 : MS Nat := (.seq (.expr (.meth .orders 11 (.var 0) (.cons (.var 1) .nil))) (.ret (.attrGet (.var 0) .given 1 .stand)))
def b_16 : MS Nat := (.ret (.comp (.idx (.var 1) (.cst (.int 0))) 1 (.meth .board 9 (.attr (.var 0) .board) .nil) (.cmp .eq (.idx (.meth .orders 15 (.var 0) (.cons (.idx (.var 1) (.cst (.int 0))) .nil)) (.cst (.int 0))) (.cst (.tg .move)))))
def b_17 : MS Nat := (.seq (.asg 2 (.meth .orders 15 (.var 0) (.cons (.var 1) .nil))) (.seq (.ifS (.cmp .ne (.idx (.var 2) (.cst (.int 0))) (.cst (.tg .help))) (.ret (.cst (.bl false))) .skip) (.seq (.asg 3 (.meth .board 7 (.attr (.var 0) .board) (.cons (.var 1) .nil))) (.seq (.forL 4 (.meth .orders 16 (.var 0) .nil) (.ifS (.and (.cmp .eq (.idx (.meth .orders 15 (.var 0) (.cons (.var 4) .nil)) (.cst (.int 1))) (.var 1)) (.cmp .ne (.var 4) (.idx (.var 2) (.cst (.int 2))))) (.ifS (.cmp .ne (.meth .board 7 (.attr (.var 0) .board) (.cons (.var 4) .nil)) (.var 3)) (.ret (.cst (.bl true))) .skip) .skip)) (.ret (.cst (.bl false)))))))
def b_18 : MS Nat := (.seq (.asg 2 (.meth .orders 15 (.var 0) (.cons (.var 1) .nil))) (.seq (.ifS (.or (.cmp .ne (.idx (.var 2) (.cst (.int 0))) (.cst (.tg .help))) (.call 17 (.cons (.var 0) (.cons (.var 1) .nil)))) (.ret (.cst (.bl false))) .skip) (.seq (.asg 3 (.meth .orders 15 (.var 0) (.cons (.idx (.var 2) (.cst (.int 1))) .nil))) (.seq (.ifS (.cmp .eq (.idx (.var 2) (.cst (.int 1))) (.idx (.var 2) (.cst (.int 2)))) (.ret (.cmp .ne (.idx (.var 3) (.cst (.int 0))) (.cst (.tg .move)))) .skip) (.ret (.cmp .eq (.var 3) (.tup (.cons (.cst (.tg .move)) (.cons (.idx (.var 2) (.cst (.int 2))) .nil)))))))))
def b_19 : MS Nat := (.seq (.asgL 3 (.lst .nil)) (.seq (.forL 4 (.meth .board 9 (.attr (.var 0) .board) .nil) (.ifS (.and (.cmp .eq (.meth .orders 15 (.var 0) (.cons (.idx (.var 4) (.cst (.int 0))) .nil)) (.tup (.cons (.cst (.tg .help)) (.cons (.var 1) (.cons (.var 2) .nil))))) (.call 18 (.cons (.var 0) (.cons (.idx (.var 4) (.cst (.int 0))) .nil)))) (.app 3 (.idx (.var 4) (.cst (.int 0)))) .skip)) (.ret (.var 3))))
def b_20 : MS Nat := (.seq (.asg 2 (.meth .orders 15 (.var 0) (.cons (.var 1) .nil))) (.seq (.ifS (.cmp .ne (.idx (.var 2) (.cst (.int 0))) (.cst (.tg .move))) (.ret (.cst (.int 0))) .skip) (.ret (.bin .add (.cst (.int 1)) (.blt .len (.cons (.call 19 (.cons (.var 0) (.cons (.var 1) (.cons (.idx (.var 2) (.cst (.int 1))) .nil)))) .nil))))))
def b_21 : MS Nat := (.seq (.asg 3 (.meth .orders 15 (.var 0) (.cons (.var 1) .nil))) (.seq (.ifS (.cmp .ne (.idx (.var 3) (.cst (.int 0))) (.cst (.tg .move))) (.ret (.cst (.int 0))) .skip) (.seq (.asg 4 (.call 19 (.cons (.var 0) (.cons (.var 1) (.cons (.idx (.var 3) (.cst (.int 1))) .nil))))) (.ret (.bin .add (.cst (.int 1)) (.blt .len (.cons (.comp (.var 5) 5 (.var 4) (.cmp .ne (.meth .board 7 (.attr (.var 0) .board) (.cons (.var 5) .nil)) (.var 2))) .nil)))))))
def b_22 : MS Nat := (.seq (.ifS (.cmp .eq (.idx (.meth .orders 15 (.var 0) (.cons (.var 1) .nil)) (.cst (.int 0))) (.cst (.tg .move))) (.ret (.cst (.int 1))) .skip) (.ret (.bin .add (.cst (.int 1)) (.blt .len (.cons (.call 19 (.cons (.var 0) (.cons (.var 1) (.cons (.var 1) .nil)))) .nil)))))
def b_23 : MS Nat := (.seq (.asg 3 (.idx (.meth .orders 15 (.var 0) (.cons (.var 1) .nil)) (.cst (.int 1)))) (.seq (.asg 4 (.call 20 (.cons (.var 0) (.cons (.var 1) .nil)))) (.seq (.forL 5 (.meth .orders 16 (.var 0) .nil) (.ifS (.and (.cmp .ne (.var 5) (.var 1)) (.and (.cmp .eq (.idx (.meth .orders 15 (.var 0) (.cons (.var 5) .nil)) (.cst (.int 1))) (.var 3)) (.cmp .ge (.call 20 (.cons (.var 0) (.cons (.var 5) .nil))) (.var 4)))) (.ret (.cst (.int 1))) .skip)) (.seq (.asg 6 (.meth .board 7 (.attr (.var 0) .board) (.cons (.var 3) .nil))) (.seq (.ifS (.isN (.var 6)) (.ret (.cst (.int 0))) .skip) (.seq (.asg 7 (.cmp .eq (.meth .board 7 (.attr (.var 0) .board) (.cons (.var 1) .nil)) (.var 6))) (.seq (.asg 8 (.call 21 (.cons (.var 0) (.cons (.var 1) (.cons (.var 6) .nil))))) (.seq (.ifS (.cmp .eq (.meth .orders 15 (.var 0) (.cons (.var 3) .nil)) (.tup (.cons (.cst (.tg .move)) (.cons (.var 1) .nil)))) (.seq (.ifS (.or (.var 7) (.cmp .le (.var 8) (.call 20 (.cons (.var 0) (.cons (.var 3) .nil))))) (.ret (.cst (.int 2))) .skip) (.ret (.cst (.int 0)))) .skip) (.seq (.ifS (.cmp .isIn (.var 3) (.var 2)) (.ret (.cst (.int 0))) .skip) (.seq (.ifS (.or (.var 7) (.cmp .le (.var 8) (.call 22 (.cons (.var 0) (.cons (.var 3) .nil))))) (.ret (.cst (.int 3))) .skip) (.ret (.cst (.int 0)))))))))))))
def b_24 : MS Nat := (.seq (.asgD 1) (.seq (.forL 2 (.var 0) (.setIx 1 (.var 2) (.cst (.bl true)))) (.ret (.var 1))))
def b_25 : MS Nat := (.seq (.asg 2 (.call 24 (.cons (.var 1) .nil))) (.seq (.forL 3 (.var 1) (.ifS (.cmp .ne (.call 23 (.cons (.var 0) (.cons (.var 3) (.cons (.var 2) .nil)))) (.cst (.int 0))) (.ret (.cst (.bl false))) .skip)) (.ret (.cst (.bl true)))))
def b_26 : MS Nat := (.seq (.asg 1 (.meth .orders 16 (.var 0) .nil)) (.seq (.asg 2 (.lst .nil)) (.seq (.asg 3 (.cst (.int 1))) (.whileT (.seq (.asg 4 (.call 24 (.cons (.var 1) .nil))) (.seq (.asgL 5 (.lst .nil)) (.seq (.forL 6 (.var 1) (.seq (.asg 7 (.call 23 (.cons (.var 0) (.cons (.var 6) (.cons (.var 4) .nil))))) (.ifS (.cmp .ne (.var 7) (.cst (.int 0))) (.app 5 (.tup (.cons (.var 3) (.cons (.var 6) (.cons (.var 7) .nil))))) .skip))) (.seq (.ifS (.not (.var 5)) (.ret (.tup (.cons (.var 2) (.cons (.var 1) .nil)))) .skip) (.seq (.asg 2 (.bin .add (.var 2) (.var 5))) (.seq (.asg 8 (.call 24 (.cons (.comp (.idx (.var 9) (.cst (.int 1))) 9 (.var 5) (.cst (.bl true))) .nil))) (.seq (.asg 1 (.comp (.var 6) 6 (.var 1) (.cmp .notIn (.var 6) (.var 8)))) (.asg 3 (.bin .add (.var 3) (.cst (.int 1)))))))))))))))
def b_27 : MS Nat := (.ret (.idx (.call 26 (.cons (.var 0) .nil)) (.cst (.int 0))))
def b_28 : MS Nat := (.ret (.idx (.call 26 (.cons (.var 0) .nil)) (.cst (.int 1))))
def b_29 : MS Nat := (.seq (.asgD 2) (.seq (.forL 3 (.meth .orders 16 (.var 0) .nil) (.seq (.asg 4 (.idx (.meth .orders 15 (.var 0) (.cons (.var 3) .nil)) (.cst (.int 1)))) (.ifS (.cmp .notIn (.var 4) (.var 1)) (.setIx 2 (.var 4) (.cst (.bl true))) .skip))) (.ret (.blt .sorted (.cons (.var 2) .nil)))))
def b_30 : MS Nat := (.seq (.asg 3 (.comp (.idx (.var 5) (.cst (.int 0))) 5 (.var 1) (.cst (.bl true)))) (.seq (.asgL 4 (.lst .nil)) (.seq (.forL 5 (.meth .board 9 (.attr (.var 0) .board) .nil) (.ifS (.and (.cmp .isIn (.idx (.var 5) (.cst (.int 0))) (.var 2)) (.cmp .notIn (.idx (.var 5) (.cst (.int 0))) (.var 3))) (.app 4 (.tup (.cons (.idx (.var 5) (.cst (.int 0))) (.cons (.idx (.var 5) (.cst (.int 1))) (.cons (.idx (.var 2) (.idx (.var 5) (.cst (.int 0)))) .nil))))) .skip)) (.ret (.var 4)))))
def b_31 : MS Nat := (.seq (.asgD 3) (.seq (.forL 4 (.var 1) (.setIx 3 (.idx (.var 4) (.cst (.int 0))) (.idx (.var 4) (.cst (.int 1))))) (.seq (.asg 5 (.comp (.idx (.var 7) (.cst (.int 0))) 7 (.var 2) (.cst (.bl true)))) (.seq (.asg 6 (.new .board 5 (.cons (.attr (.var 0) .chart) .nil))) (.seq (.forL 4 (.meth .board 9 (.var 0) .nil) (.ifS (.cmp .notIn (.idx (.var 4) (.cst (.int 0))) (.var 5)) (.expr (.meth .board 6 (.var 6) (.cons (.dgetD (.var 3) (.idx (.var 4) (.cst (.int 0))) (.idx (.var 4) (.cst (.int 0)))) (.cons (.idx (.var 4) (.cst (.int 1))) .nil)))) .skip)) (.ret (.var 6)))))))
def b_32 : MS Nat := (.seq (.setAt (.var 0) .steps (.comp (.tup (.cons (.var 4) (.cons (.idx (.meth .orders 15 (.var 1) (.cons (.var 4) .nil)) (.cst (.int 1))) .nil))) 4 (.call 28 (.cons (.var 1) .nil)) (.cst (.bl true)))) (.seq (.asgD 2) (.seq (.forL 3 (.attr (.var 0) .steps) (.setIx 2 (.idx (.var 3) (.cst (.int 1))) (.idx (.var 3) (.cst (.int 0))))) (.seq (.setAt (.var 0) .closed (.call 29 (.cons (.var 1) (.cons (.var 2) .nil)))) (.seq (.setAt (.var 0) .out (.call 30 (.cons (.var 1) (.cons (.attr (.var 0) .steps) (.cons (.var 2) .nil))))) (.setAt (.var 0) .board (.call 31 (.cons (.attr (.var 1) .board) (.cons (.attr (.var 0) .steps) (.cons (.attr (.var 0) .out) .nil))))))))))
def b_33 : MS Nat := (.ret (.blt .list (.cons (.attr (.var 0) .steps) .nil)))
def b_34 : MS Nat := (.ret (.blt .list (.cons (.attr (.var 0) .out) .nil)))
def b_35 : MS Nat := (.ret (.blt .list (.cons (.attr (.var 0) .closed) .nil)))
def b_36 : MS Nat := (.seq (.asg 2 (.attr (.attr (.var 0) .board) .chart)) (.seq (.expr (.meth .map 1 (.var 2) (.cons (.var 1) .nil))) (.seq (.forL 3 (.attr (.var 0) .out) (.ifS (.cmp .eq (.idx (.var 3) (.cst (.int 0))) (.var 1)) (.seq (.asg 4 (.comp (.var 5) 5 (.meth .map 4 (.var 2) (.cons (.var 1) .nil)) (.isN (.meth .board 7 (.attr (.var 0) .board) (.cons (.var 5) .nil))))) (.ret (.comp (.var 5) 5 (.var 4) (.and (.cmp .ne (.var 5) (.idx (.var 3) (.cst (.int 2)))) (.cmp .notIn (.var 5) (.attr (.var 0) .closed)))))) .skip)) (.raise .noUnit))))
def b_37 : MS Nat := (.seq (.asg 2 (.attr (.attr (.var 0) .board) .chart)) (.seq (.forL 3 (.var 1) (.seq (.expr (.meth .map 1 (.var 2) (.cons (.idx (.var 3) (.cst (.int 0))) .nil))) (.expr (.meth .map 1 (.var 2) (.cons (.idx (.var 3) (.cst (.int 1))) .nil))))) (.seq (.asgD 4) (.seq (.forL 3 (.var 1) (.seq (.expr (.meth .turn 36 (.var 0) (.cons (.idx (.var 3) (.cst (.int 0))) .nil))) (.setIx 4 (.idx (.var 3) (.cst (.int 0))) (.idx (.var 3) (.cst (.int 1)))))) (.seq (.asg 5 (.comp (.idx (.var 3) (.cst (.int 1))) 3 (.var 1) (.cst (.bl true)))) (.seq (.asg 6 (.new .board 5 (.cons (.var 2) .nil))) (.seq (.forL 3 (.meth .board 9 (.attr (.var 0) .board) .nil) (.expr (.meth .board 6 (.var 6) (.cons (.idx (.var 3) (.cst (.int 0))) (.cons (.idx (.var 3) (.cst (.int 1))) .nil))))) (.seq (.asgL 7 (.lst .nil)) (.seq (.forL 8 (.meth .turn 34 (.var 0) .nil) (.seq (.asg 9 (.dgetD (.var 4) (.idx (.var 8) (.cst (.int 0))) (.cst .non))) (.ifS (.and (.cmp .isIn (.var 9) (.meth .turn 36 (.var 0) (.cons (.idx (.var 8) (.cst (.int 0))) .nil))) (.cmp .eq (.count (.var 5) (.var 9)) (.cst (.int 1)))) (.expr (.meth .board 6 (.var 6) (.cons (.var 9) (.cons (.idx (.var 8) (.cst (.int 1))) .nil)))) (.app 7 (.idx (.var 8) (.cst (.int 0))))))) (.ret (.tup (.cons (.var 6) (.cons (.var 7) .nil)))))))))))))
end LL
end
section
set_option linter.all false
/-! LRun: the readings, step by step. -/
namespace LL
theorem Wd.le_refl (w : Wd) : Wd.le w w := fun _ _ e => e
section
variable {Q : D → Wd → Prop} {E : Ex → Wd → Prop} {env : Env} {w : Wd} {r : R}
theorem dnx (h : Q .non w) : (defEnds Q E).nx env w := ⟨w, Wd.le_refl w, h⟩
theorem drt (y : r.yy = true) (h : Q r.d w) : (defEnds Q E).rt r w := ⟨y, w, Wd.le_refl w, h⟩
theorem dex {x : Ex} (h : E x w) : (defEnds Q E).ex x env w := ⟨w, Wd.le_refl w, h⟩
theorem dxk {x : Ex} (h : E x w) : (defEnds Q E).xk env x w := ⟨w, Wd.le_refl w, h⟩
end
section
variable {α β : Type} {P : α → Prop}
theorem xSome {x : α} : onSome (some x) P = P x := rfl
theorem xInt {i : Int} {P : Int → Prop} : (D.int i).onInt P = P i := rfl
theorem xBl {i : Bool} {P : Bool → Prop} : (D.bl i).onBl P = P i := rfl
theorem xLst {i : List D} {P : List D → Prop} : (D.lst i).onLst P = P i := rfl
theorem xTup {i : List D} {P : List D → Prop} : (D.tup i).onTup P = P i := rfl
theorem xScr {i : List Int} {P : List Int → Prop} : (D.scr i).onScr P = P i := rfl
theorem xDic {i : List (Int × D)} {P : List (Int × D) → Prop} : (D.dic i).onDic P = P i := rfl
theorem xObj {i : Nat} {P : Nat → Prop} : (D.obj i).onObj P = P i := rfl
theorem xVal {d : D} {y : Bool} {P : D → Prop} : (PC.val d y).onVal P = P d := rfl
theorem xPLst {d : List D} {P : List D → Prop} : (PC.lst d).onLst P = P d := rfl
theorem xPMat {d : List (List D)} {P : List (List D) → Prop} : (PC.mat d).onMat P = P d := rfl
theorem xPDic {d : List (Int × D)} {P : List (Int × D) → Prop} : (PC.dic d).onDic P = P d := rfl
theorem xSlot {env : Env} {i : Nat} {P : PC → Prop} : onSlot env i P = onSome env[i]? fun o => onSome o P := rfl
theorem xSlotI {env : Env} {i : Nat} {P : Int → Prop} : slotInt env i P = onSlot env i fun pc => pc.toR.d.onInt P := rfl
theorem xFld {w : Wd} {p : Nat} {f : Fd} {P : Nat → Ob → PC → Prop} : onFld w (.obj p) f P = onSome (w p) fun ob => onSome (fget ob.fs f) fun pc => P p ob pc := rfl
theorem xOb {w : Wd} {p : Nat} {P : Nat → Ob → Prop} : onOb w (.obj p) P = onSome (w p) fun ob => P p ob := rfl
theorem xNewFld {ob : Ob} {f : Fd} {x : PC} {P : Ob → Prop} : newFld ob f x P = (ob.fs.length < 10 ∧ fget ob.fs f = none ∧ P ⟨ob.c, fput ob.fs f x⟩) := rfl
theorem xR1 {d : D} {y : Bool} : (PC.val d y).toR = ⟨d, true, y, false⟩ := rfl
theorem xR2 {d : List D} : (PC.lst d).toR = ⟨.lst d, false, true, false⟩ := rfl
theorem xR3 {d : List (List D)} : (PC.mat d).toR = ⟨.lst (d.map D.lst), false, true, false⟩ := rfl
theorem xR4 {d : List (Int × D)} : (PC.dic d).toR = ⟨.dic d, false, true, false⟩ := rfl
theorem xK1 {ds : List D} {k : Int} {d : D} {P : PC → Prop} : (PC.lst ds).setK k d P = (0 ≤ k ∧ k < (ds.length : Int) ∧ P (.lst (ds.set k.toNat d))) := rfl
theorem xK2 {ks : List (Int × D)} {k : Int} {d : D} {P : PC → Prop} : (PC.dic ks).setK k d P = (ks.length < 1000 ∧ P (.dic (dput ks k d))) := rfl
theorem xN1 : D.isNon .non = true := rfl
theorem xN2 {b : Bool} : D.isNon (.bl b) = false := rfl
theorem xN3 {b : Int} : D.isNon (.int b) = false := rfl
theorem xN4 {b : List D} : D.isNon (.tup b) = false := rfl
theorem xN5 {b : List D} : D.isNon (.lst b) = false := rfl
theorem xN6 {b : Nat} : D.isNon (.obj b) = false := rfl
theorem xT1 {b : Bool} : truth (.bl b) = some b := rfl
theorem xT2 {ds : List D} : truth (.lst ds) = some (!ds.isEmpty) := rfl
section
variable {i j : Int} {Q : Bool → Prop} {a b : D}
theorem xC1 : cmpop .lt (.int i) (.int j) Q = Q (decide (i < j)) := rfl
theorem xC2 : cmpop .le (.int i) (.int j) Q = Q (decide (i ≤ j)) := rfl
theorem xC3 : cmpop .gt (.int i) (.int j) Q = Q (decide (j < i)) := rfl
theorem xC4 : cmpop .ge (.int i) (.int j) Q = Q (decide (j ≤ i)) := rfl
theorem xC5 : cmpop .eq a b Q = (a.pl = true ∧ b.pl = true ∧ Q (D.eqv a b)) := by cases a <;> cases b <;> rfl
theorem xC6 : cmpop .ne a b Q = (a.pl = true ∧ b.pl = true ∧ Q (!D.eqv a b)) := by cases a <;> cases b <;> rfl
theorem xC7 {ds : List D} : cmpop .isIn a (.lst ds) Q = (a.pl = true ∧ (D.lst ds).pl = true ∧ Q (ds.any fun z => D.eqv z a)) := by cases a <;> rfl
theorem xC8 {ds : List D} : cmpop .notIn a (.lst ds) Q = (a.pl = true ∧ (D.lst ds).pl = true ∧ Q (!ds.any fun z => D.eqv z a)) := by cases a <;> rfl
theorem xC9 {ks : List (Int × D)} : cmpop .isIn (.int i) (.dic ks) Q = Q (dget ks i).isSome := rfl
theorem xC10 {ks : List (Int × D)} : cmpop .notIn (.int i) (.dic ks) Q = Q (!(dget ks i).isSome) := rfl
end
section
variable {i j : Int} {Q : R → Prop} {as bs : List D}
theorem xB1 : binop .add (.int i) (.int j) Q = Q (sc (.int (i + j))) := rfl
theorem xB2 : binop .add (.lst as) (.lst bs) Q = (as.length + bs.length ≤ top ∧ D.ncs as = true ∧ D.ncs bs = true ∧ Q (fr (.lst (as ++ bs)))) := rfl
theorem xB3 : binop .sub (.int i) (.int j) Q = Q (sc (.int (i - j))) := rfl
theorem xB4 : binop .mul (.int i) (.int j) Q = (((-(2 ^ 64) < i ∧ i < 2 ^ 64) ∨ (-(2 ^ 64) < j ∧ j < 2 ^ 64)) ∧ Q (sc (.int (i * j)))) := rfl
theorem xB5 : binop .mul (.lst as) (.int j) Q = (0 ≤ j ∧ j ≤ 1000 ∧ as.length ≤ 1000 ∧ D.ncs as = true ∧ Q (fr (.lst (List.replicate j.toNat as).flatten))) := rfl
theorem xB6 : binop .fdiv (.int i) (.int j) Q = (0 < j ∧ j < 1073741824 ∧ Q (sc (.int (i / j)))) := rfl
theorem xB7 : binop .mod (.int i) (.int j) Q = (0 < j ∧ Q (sc (.int (i % j)))) := rfl
theorem xI1 {z y f : Bool} : idxop ⟨.lst as, z, y, f⟩ (.int i) Q = onSome (at0 as i) fun d => Q ⟨d, z, y, false⟩ := by
  unfold idxop; dsimp only; cases at0 as i <;> rfl
theorem xI2 {z y f : Bool} : idxop ⟨.tup as, z, y, f⟩ (.int i) Q = onSome (at0 as i) fun d => Q ⟨d, z, y, false⟩ := by
  unfold idxop; dsimp only; cases at0 as i <;> rfl
theorem xI3 {ns : List Int} {z y f : Bool} : idxop ⟨.scr ns, z, y, f⟩ (.int i) Q = onSome (at0 ns i) fun n => Q (sc (.int n)) := by
  unfold idxop; dsimp only; cases at0 ns i <;> rfl
theorem xL1 : blt .len [.lst as] Q = Q (sc (.int as.length)) := rfl
theorem xL2 : blt .len [.tup as] Q = Q (sc (.int as.length)) := rfl
theorem xL3 {ns : List Int} : blt .len [.scr ns] Q = Q (sc (.int ns.length)) := rfl
theorem xL4 : blt .list [.lst as] Q = (D.ncs as = true ∧ Q (fr (.lst as))) := rfl
theorem xL5 {b : Bool} : blt .int [.bl b] Q = Q (sc (.int (if b then 1 else 0))) := rfl
theorem xL6 : blt .int [.int i] Q = Q (sc (.int i)) := rfl
end
theorem xSc {d : D} : sc d = ⟨d, true, true, false⟩ := rfl
theorem xFr {d : D} : fr d = ⟨d, true, true, true⟩ := rfl
theorem xZZ {r : R} : r.zz = (r.z || r.d.nc) := rfl
theorem xYY {r : R} : r.yy = (r.y || r.d.nc) := rfl
theorem xPar {ds : List D} {n : Nat} : parEnv ds n = ds.map (fun d => some (.val d false)) ++ List.replicate n none := rfl
end
/-- behind a statement -/
def Ends.sq (Phi : Nat → LSp) (b : MS Nat) (K : Ends) : Ends := ⟨fun env w => les Phi b K env w, K.rt, K.ex⟩
section
variable {Phi : Nat → LSp} {K : Ends} {env : Env} {w : Wd} {a b : MS Nat} {e e1 e2 : ME Nat} {i j : Nat} {f : Fd}
theorem sq_nx : (Ends.sq Phi b K).nx env w = les Phi b K env w := rfl
theorem sq_rt : (Ends.sq Phi b K).rt = K.rt := rfl
theorem sq_ex : (Ends.sq Phi b K).ex = K.ex := rfl
theorem sq_xk : (Ends.sq Phi b K).xk env = K.xk env := rfl
theorem nx_xk {I : Env → Wd → Prop} : ({ K with nx := I } : Ends).xk env = K.xk env := rfl
theorem xXk {x : Ex} : K.xk env x w = K.ex x env w := rfl
theorem sSkip : les Phi .skip K env w = K.nx env w := by simp only [les]
theorem sSeq : les Phi (.seq a b) K env w = les Phi a (Ends.sq Phi b K) env w := by simp only [les]; rfl
theorem sFrz : les Phi (.frz i) K env w = onSlot env i fun pc => pc.onLst fun ds => K.nx (env.set i (some (.val (.lst ds) true))) w := by simp only [les]
theorem sAsg : les Phi (.asg i e) K env w = lev Phi e env w (fun r w1 => r.zz = true ∧ K.nx (env.set i (some (.val r.d r.yy))) w1) (K.xk env) := by simp only [les]
theorem sAsgL : les Phi (.asgL i e) K env w = lev Phi e env w (fun r w1 => r.f = true ∧ r.y = true ∧ r.d.onLst fun ds => D.ncs ds = true ∧ K.nx (env.set i (some (.lst ds))) w1) (K.xk env) := by simp only [les]
theorem sAsgD : les Phi (.asgD i) K env w = K.nx (env.set i (some (.dic []))) w := by simp only [les]
theorem sAsgM {d : D} {n : Nat} : les Phi (.asgM i d j n) K env w = (d.nc = true ∧ freeSlot env j ∧ n ≠ j ∧ slotInt env n fun k => 0 ≤ k ∧ k ≤ 1000 ∧ K.nx (env.set i (some (.mat (square k d)))) w) := by simp only [les]
theorem sSetIx : les Phi (.setIx i e1 e) K env w = lev Phi e env w (fun r w1 => r.d.nc = true ∧ onSlot env i fun pc => lev Phi e1 env w1 (fun y w2 => y.d.onInt fun k => pc.setK k r.d fun pc' => K.nx (env.set i (some pc')) w2) (K.xk env)) (K.xk env) := by simp only [les]
theorem sSetIx2 : les Phi (.setIx2 i e1 e2 e) K env w = lev Phi e env w (fun r w1 => r.d.nc = true ∧ onSlot env i fun pc => pc.onMat fun rows => lev Phi e1 env w1 (fun y w2 => y.d.onInt fun k => onSome (at0 rows k) fun ds =>
      lev Phi e2 env w2 (fun z w3 => z.d.onInt fun l => 0 ≤ l ∧ l < (ds.length : Int) ∧ K.nx (env.set i (some (.mat (rows.set k.toNat (ds.set l.toNat r.d))))) w3) (K.xk env)) (K.xk env)) (K.xk env) := by simp only [les]
theorem sSetAt : les Phi (.setAt e1 f e) K env w = lev Phi e env w (fun r w1 => (r.own = true ∨ r.d.nc = true) ∧ lev Phi e1 env w1 (fun x w2 => onOb w2 x.d fun p ob => newFld ob f (.val r.d true) fun ob' => K.nx env (w2.put p ob')) (K.xk env)) (K.xk env) := by simp only [les]
theorem sSetAtL : les Phi (.setAtL e1 f e) K env w = lev Phi e env w (fun r w1 => r.f = true ∧ r.y = true ∧ r.d.onLst fun ds => D.ncs ds = true ∧ lev Phi e1 env w1 (fun x w2 => onOb w2 x.d fun p ob => newFld ob f (.lst ds) fun ob' => K.nx env (w2.put p ob')) (K.xk env)) (K.xk env) := by simp only [les]
theorem sSetAtD : les Phi (.setAtD e1 f) K env w = lev Phi e1 env w (fun x w2 => onOb w2 x.d fun p ob => newFld ob f (.dic []) fun ob' => K.nx env (w2.put p ob')) (K.xk env) := by simp only [les]
theorem sSetAtM {d : D} {o n : Nat} : les Phi (.setAtM o f d j n) K env w = (d.nc = true ∧ freeSlot env j ∧ n ≠ j ∧ o ≠ j ∧ slotInt env n fun k => 0 ≤ k ∧ k ≤ 1000 ∧ onSlot env o fun pc => onOb w pc.toR.d fun p ob => newFld ob f (.mat (square k d)) fun ob' => K.nx env (w.put p ob')) := by simp only [les]
theorem sSetF : les Phi (.setFIx e1 f i e) K env w = lev Phi e env w (fun r w1 => r.d.nc = true ∧ lev Phi e1 env w1 (fun x w2 => onFld w2 x.d f fun p ob pc =>
      slotInt env i fun k => pc.setK k r.d fun pc' => K.nx env (w2.put p ⟨ob.c, fput ob.fs f pc'⟩)) (K.xk env)) (K.xk env) := by simp only [les]
theorem sSetF2 : les Phi (.setFIx2 e1 f i j e) K env w = lev Phi e env w (fun r w1 => r.d.nc = true ∧ lev Phi e1 env w1 (fun x w2 => onFld w2 x.d f fun p ob pc => pc.onMat fun rows =>
      slotInt env i fun k => onSome (at0 rows k) fun ds => slotInt env j fun l => 0 ≤ l ∧ l < (ds.length : Int) ∧
        K.nx env (w2.put p ⟨ob.c, fput ob.fs f (.mat (rows.set k.toNat (ds.set l.toNat r.d)))⟩)) (K.xk env)) (K.xk env) := by simp only [les]
theorem sExpr : les Phi (.expr e) K env w = lev Phi e env w (fun _ w1 => K.nx env w1) (K.xk env) := by simp only [les]
theorem sApp : les Phi (.app i e) K env w = onSlot env i fun pc => pc.onLst fun ds => lev Phi e env w (fun r w1 => r.d.nc = true ∧ ds.length < top ∧ K.nx (env.set i (some (.lst (ds ++ [r.d])))) w1) (K.xk env) := by simp only [les]
theorem sRev : les Phi (.rev i) K env w = onSlot env i fun pc => pc.onLst fun ds => K.nx (env.set i (some (.lst ds.reverse))) w := by simp only [les]
theorem sClr : les Phi (.clr i) K env w = onSlot env i fun pc => pc.onLst fun _ => K.nx (env.set i (some (.lst []))) w := by simp only [les]
theorem sAppT : les Phi (.appT e1 e) K env w = lev Phi e1 env w (fun r w1 => r.f = true ∧ r.y = true ∧ r.d.onLst fun ds => D.ncs ds = true ∧ ds.length < top ∧ lev Phi e env w1 (fun _ w2 => K.nx env w2) (K.xk env)) (K.xk env) := by simp only [les]
theorem sClrT : les Phi (.clrT e1) K env w = lev Phi e1 env w (fun r w1 => r.f = true ∧ r.y = true ∧ r.d.onLst fun ds => D.ncs ds = true ∧ K.nx env w1) (K.xk env) := by simp only [les]
theorem sIf : les Phi (.ifS e a b) K env w = lev Phi e env w (fun r w1 => onSome (truth r.d) fun k => (k = true → les Phi a K env w1) ∧ (k = false → les Phi b K env w1)) (K.xk env) := by simp only [les]
theorem sRet : les Phi (.ret e) K env w = lev Phi e env w (fun r w1 => K.rt r w1) (K.xk env) := by simp only [les]
theorem sRetN : les Phi (.retN : MS Nat) K env w = K.rt (sc .non) w := by simp only [les]
theorem sRaise {x : Ex} : les Phi (.raise x : MS Nat) K env w = K.ex x env w := by simp only [les]
theorem sForR {lo hi : ME Nat} : les Phi (.forR i lo hi b) K env w = lev Phi lo env w (fun r w1 => lev Phi hi env w1 (fun r2 w2 => r.d.onInt fun a => r2.d.onInt fun c => -1000 ≤ a ∧ a ≤ 1000 ∧ -1000 ≤ c ∧ c ≤ 1000 ∧
        ∃ Inv : Nat → Env → Wd → Prop, Inv 0 env w2 ∧
          (∀ m env w, m < (c - a).toNat → Inv m env w → les Phi b { K with nx := Inv (m + 1) } (env.set i (some (.val (.int (a + m)) true))) w) ∧
          (∀ env w, Inv (c - a).toNat env w → K.nx env w)) (K.xk env)) (K.xk env) := by simp only [les]
theorem sForL : les Phi (.forL i e b) K env w = lev Phi e env w (fun r w1 => r.z = true ∧ r.d.onLst fun ds => ∃ Inv : Nat → Env → Wd → Prop, Inv 0 env w1 ∧
          (∀ m d env w, ds[m]? = some d → Inv m env w → les Phi b { K with nx := Inv (m + 1) } (env.set i (some (.val d (r.y || d.nc)))) w) ∧
          (∀ env w, Inv ds.length env w → K.nx env w)) (K.xk env) := by simp only [les]
theorem sForT : les Phi (.forT i e b) K env w = lev Phi e env w (fun r w1 => r.z = true ∧ r.d.onTup fun ds => ∃ Inv : Nat → Env → Wd → Prop, Inv 0 env w1 ∧
          (∀ m d env w, ds[m]? = some d → Inv m env w → les Phi b { K with nx := Inv (m + 1) } (env.set i (some (.val d (r.y || d.nc)))) w) ∧
          (∀ env w, Inv ds.length env w → K.nx env w)) (K.xk env) := by simp only [les]
theorem sForD {hi : ME Nat} : les Phi (.forD i hi b) K env w = lev Phi hi env w (fun r w1 => r.d.onInt fun a => -1 ≤ a ∧ a ≤ 1000 ∧ ∃ Inv : Nat → Env → Wd → Prop, Inv 0 env w1 ∧
          (∀ m env w, m < (a + 1).toNat → Inv m env w → les Phi b { K with nx := Inv (m + 1) } (env.set i (some (.val (.int (a - m)) true))) w) ∧
          (∀ env w, Inv (a + 1).toNat env w → K.nx env w)) (K.xk env) := by simp only [les]
theorem sTry : les Phi (.tryE a i b) K env w = les Phi a { K with ex := fun x env' w' => les Phi b ⟨fun e2 w2 => w2 = w' ∧ Env.nox (e2.set i none) = true ∧ K.nx (e2.set i none) w2, fun _ _ => False, fun _ _ _ => False⟩ (env'.set i (some (.val (.exc x) true))) w' } env w := by simp only [les]
mutual
theorem eqv_self : ∀ (n : Nat) (d : D), d.plN n = true → D.eqv d d = true
  | _, .non, _ => rfl
  | _, .bl b, _ => by simp [D.eqv]
  | _, .int b, _ => by simp [D.eqv]
  | _, .tg b, _ => by simp [D.eqv]
  | n + 1, .tup ds, h => by simp only [D.eqv]; exact eqvs_self n ds (by simpa [D.plN] using h)
  | n + 1, .lst ds, h => by simp only [D.eqv]; exact eqvs_self n ds (by simpa [D.plN] using h)
  | 0, .tup ds, h => by simp [D.plN] at h
  | 0, .lst ds, h => by simp [D.plN] at h
  | n, .dic _, h => by cases n <;> simp [D.plN] at h
  | n, .obj _, h => by cases n <;> simp [D.plN] at h
  | n, .exc _, h => by cases n <;> simp [D.plN] at h
  | n, .scr _, h => by cases n <;> simp [D.plN] at h
  | n, .hid, h => by cases n <;> simp [D.plN] at h
theorem eqvs_self : ∀ (n : Nat) (ds : List D), D.plsN n ds = true → D.eqvs ds ds = true
  | _, [], _ => rfl
  | n, d :: ds, h => by
    simp only [D.plsN, Bool.and_eq_true] at h
    simp only [D.eqvs, Bool.and_eq_true]
    exact ⟨eqv_self n d h.1, eqvs_self n ds h.2⟩
end
theorem gS0 {α : Type} {x : α} {xs : List α} : (x :: xs)[0]? = some x := rfl
theorem gS1 {α : Type} {x : α} {xs : List α} {i : Nat} : (x :: xs)[i + 1]? = xs[i]? := rfl
theorem aA0 {α : Type} {x : α} {xs : List α} : at0 (x :: xs) 0 = some x := rfl
theorem aA1 {α : Type} {x y : α} {xs : List α} : at0 (x :: y :: xs) 1 = some y := rfl
theorem aA2 {α : Type} {x y z : α} {xs : List α} : at0 (x :: y :: z :: xs) 2 = some z := rfl
theorem xS1 {i : Int} : isiD (.int i) .int = some true := rfl
theorem xS2 {i : Int} : isiD (.int i) .bool = some false := rfl
theorem xS3 {i : Bool} : isiD (.bl i) .bool = some true := rfl
theorem xS4 {i : List D} : isiD (.lst i) .list = some true := rfl
theorem xS5 {i : List D} : isiD (.tup i) .tuple = some true := rfl
theorem xS6 {i : Tg} : isiD (.tg i) .str = some true := rfl
theorem xS7 {i : Bool} : isiD (.bl i) .int = some true := rfl
section
variable {V : VK} {Ek : XKd} {x1 x2 x3 : ME Nat}
theorem vOr : lev Phi (.or x1 x2) env w V Ek = lev Phi x1 env w (fun x w1 => x.d.onBl fun c => (c = true → V (sc (.bl true)) w1) ∧ (c = false → lev Phi x2 env w1 V Ek)) Ek := by simp only [lev]
theorem vAnd : lev Phi (.and x1 x2) env w V Ek = lev Phi x1 env w (fun x w1 => x.d.onBl fun c => (c = true → lev Phi x2 env w1 V Ek) ∧ (c = false → V (sc (.bl false)) w1)) Ek := by simp only [lev]
theorem vNot : lev Phi (.not x1) env w V Ek = lev Phi x1 env w (fun x w1 => onSome (truth x.d) fun c => V (sc (.bl (!c))) w1) Ek := by simp only [lev]
theorem vVar {i : Nat} : lev Phi (.var i : ME Nat) env w V Ek = onSlot env i fun pc => V pc.toR w := by simp only [lev]
theorem vCst {d : D} : lev Phi (.cst d : ME Nat) env w V Ek = V (sc d) w := by simp only [lev]
theorem vNotN : lev Phi (.notN x1) env w V Ek = lev Phi x1 env w (fun x w1 => V (sc (.bl (!x.d.isNon))) w1) Ek := by simp only [lev]
theorem vIsN : lev Phi (.isN x1) env w V Ek = lev Phi x1 env w (fun x w1 => V (sc (.bl x.d.isNon)) w1) Ek := by simp only [lev]
theorem vCmp {o : Cop} : lev Phi (.cmp o x1 x2) env w V Ek = lev Phi x1 env w (fun x w1 => lev Phi x2 env w1 (fun y w2 => cmpop o x.d y.d fun r => V (sc (.bl r)) w2) Ek) Ek := by simp only [lev]
theorem vBin {o : Bop} : lev Phi (.bin o x1 x2) env w V Ek = lev Phi x1 env w (fun x w1 => lev Phi x2 env w1 (fun y w2 => binop o x.d y.d fun r => V r w2) Ek) Ek := by simp only [lev]
theorem vIdx : lev Phi (.idx x1 x2) env w V Ek = lev Phi x1 env w (fun x w1 => lev Phi x2 env w1 (fun y w2 => idxop x y.d fun r => V r w2) Ek) Ek := by simp only [lev]
theorem vChain {o p : Cop} : lev Phi (.chain o p x1 x2 x3) env w V Ek = lev Phi x1 env w (fun x w1 => lev Phi x2 env w1 (fun y w2 => cmpop o x.d y.d fun r =>
      (r = true → lev Phi x3 env w2 (fun z w3 => cmpop p y.d z.d fun r2 => V (sc (.bl r2)) w3) Ek) ∧ (r = false → V (sc (.bl false)) w2)) Ek) Ek := by simp only [lev]
end
/-- a comprehension, item by item -/
theorem compI {body : Nat → D → Option D → Prop} {items : List D} {Q : R → Prop} (g : D → Option D) (hl : items.length ≤ top) (hb : ∀ d ∈ items, ∀ m, body m d (g d)) (hq : Q (fr (.lst (items.filterMap g)))) : compRead body items Q := by
  refine ⟨hl, fun m => (items[m]?).bind g, fun m x e => ?_, ?_⟩
  · show body m x ((items[m]?).bind g)
    rw [e]; exact hb x (List.mem_of_getElem? e) m
  · have : (List.range items.length).filterMap (fun m => (items[m]?).bind g) = items.filterMap g := by
      clear hl hb hq
      induction items with
      | nil => rfl
      | cons x xs ih =>
        rw [List.length_cons, List.range_succ_eq_map, List.filterMap_cons, List.filterMap_cons, List.filterMap_map]
        have e1 : ((fun m => ((x :: xs)[m]?).bind g) ∘ Nat.succ) = fun m => (xs[m]?).bind g := by
          funext m; simp
        rw [e1, ih]
        simp
    rw [this]; exact hq
end
end LL
end
section
set_option Elab.async false
set_option linter.all false
set_option maxRecDepth 100000
/-! LSim: how trees, slots and objects lie in the abstract heap of the hand layer. -/
namespace LL
open PySem L2

def tgS : Tg → Str
  | .stand => "stand"
  | .move => "move"
  | .help => "help"
def fdS : Fd → Str
  | .size => "size"
  | .rows => "rows"
  | .chart => "chart"
  | .sides => "sides"
  | .board => "board"
  | .given => "given"
  | .steps => "steps"
  | .closed => "closed"
  | .out => "out"
/-- the ground: the written part, the classes' places, an exception in hand -/
structure SG where
  K : PySem.W.Frag
  ca : Cl → Addr
  xa : Option (Addr × Ex)
  xc : Ex → Addr
  hc : Cl → Bool

/-- the script: locked, or written -/
def ScrL (K : PySem.W.Frag) (H : Hp) (a : Addr) (xs : List V) : Prop :=
  (∃ o, H a = some (.frz o (.lst xs))) ∨ ∃ (o : Obj) (its : Array Value) (n : Nat), K.lookup a = some o ∧ o.cls = .type "list" ∧ o.dict = none ∧ o.data = .seq its n ∧ its.size ≤ sizeLine ∧ Vals xs its.toList
mutual
/-- the value v is the tree d; its lists and dicts lie at the addresses F -/
inductive FRep (G : SG) (H : Hp) : V → D → List Addr → Prop
  | non : FRep G H .non .non []
  | bl (b : Bool) : FRep G H (.bl b) (.bl b) []
  | int (i : Int) : FRep G H (.int i) (.int i) []
  | tg (t : Tg) : FRep G H (.str (tgS t)) (.tg t) []
  | obj (a : Addr) : FRep G H (.ref a) (.obj a) []
  | exc {a : Addr} {x : Ex} : G.xa = some (a, x) → FRep G H (.ref a) (.exc x) []
  | tup {a : Addr} {vs : List V} {ds : List D} {F : List Addr} : SqT G.K H a vs → FReps G H vs ds F → FRep G H (.ref a) (.tup ds) F
  | lst {a : Addr} {vs : List V} {ds : List D} {F : List Addr} : H a = some (.lst vs) → FReps G H vs ds F → FRep G H (.ref a) (.lst ds) (a :: F)
  | dic {a : Addr} {kvs : List (Key × V)} {ks : List (Int × D)} : H a = some (.dK kvs) → DReps G H kvs ks → FRep G H (.ref a) (.dic ks) [a]
  | scr {a : Addr} {ns : List Int} : ScrL G.K H a (ns.map V.int) → FRep G H (.ref a) (.scr ns) []
  | scr' {a : Addr} {ns : List Int} : H a = some (.lst (ns.map V.int)) → FRep G H (.ref a) (.scr ns) [a]
  | hid {a : Addr} {vs : List V} : H a = some (.lst vs) → FRep G H (.ref a) .hid [a]
inductive FReps (G : SG) (H : Hp) : List V → List D → List Addr → Prop
  | nil : FReps G H [] [] []
  | cons {v : V} {vs : List V} {d : D} {ds : List D} {F F' : List Addr} : FRep G H v d F → FReps G H vs ds F' → FReps G H (v :: vs) (d :: ds) (F ++ F')
inductive DReps (G : SG) (H : Hp) : List (Key × V) → List (Int × D) → Prop
  | nil : DReps G H [] []
  | cons {k : Int} {v : V} {d : D} {kvs : List (Key × V)} {ks : List (Int × D)} : FRep G H v d [] → DReps G H kvs ks → DReps G H ((Sum.inl k, v) :: kvs) ((k, d) :: ks)
end

/-- what never changes -/
def Imm : HO → Prop
  | .tup _ => True
  | .frz _ _ => True
  | _ => False
def Evo (H H' : Hp) : Prop := ∀ a o, H a = some o → Imm o → H' a = some o
theorem Evo.refl (H : Hp) : Evo H H := fun _ _ e _ => e
theorem Evo.trans {H H1 H2 : Hp} (a : Evo H H1) (b : Evo H1 H2) : Evo H H2 := fun c o e i => b c o (a c o e i) i
theorem Evo.same {H H' : Hp} (s : Same H H') : Evo H H' := fun a o e _ => s a o e
theorem Evo.sqT {K : PySem.W.Frag} {H H' : Hp} {a : Addr} {xs : List V} (e : Evo H H') (h : SqT K H a xs) : SqT K H' a xs := by
  rcases h with (h | ⟨o, h⟩) | h
  · exact .inl (.inl (e _ _ h trivial))
  · exact .inl (.inr ⟨o, e _ _ h trivial⟩)
  · exact .inr h
theorem Evo.scr {K : PySem.W.Frag} {H H' : Hp} {a : Addr} {xs : List V} (e : Evo H H') (h : ScrL K H a xs) : ScrL K H' a xs := by
  rcases h with ⟨o, h⟩ | h
  · exact .inl ⟨o, e _ _ h trivial⟩
  · exact .inr h
theorem ScrL.sq {K : PySem.W.Frag} {H : Hp} {a : Addr} {xs : List V} (h : ScrL K H a xs) : SqL K H a xs := by
  rcases h with h | h
  · exact .inl (.inr h)
  · exact .inr h
theorem sqL_at {K : PySem.W.Frag} {H H' : Hp} {a : Addr} {xs : List V} (e : H' a = H a) (h : SqL K H a xs) : SqL K H' a xs := by
  rcases h with (h | ⟨o, h⟩) | h
  · exact .inl (.inl (e.trans h))
  · exact .inl (.inr ⟨o, e.trans h⟩)
  · exact .inr h

section
variable {G : SG} {H H' : Hp}
mutual
theorem FRep.stay (k : Evo H H') : ∀ {v : V} {d : D} {F : List Addr}, FRep G H v d F → (∀ a ∈ F, H' a = H a) → FRep G H' v d F
  | _, _, _, .non, _ => .non
  | _, _, _, .bl b, _ => .bl b
  | _, _, _, .int i, _ => .int i
  | _, _, _, .tg t, _ => .tg t
  | _, _, _, .obj a, _ => .obj a
  | _, _, _, .exc h, _ => .exc h
  | _, _, _, .tup h r, e => .tup (k.sqT h) (FReps.stay k r e)
  | _, _, _, .lst h r, e => .lst ((e _ List.mem_cons_self).trans h) (FReps.stay k r fun a m => e a (List.mem_cons_of_mem _ m))
  | _, _, _, .dic h r, e => .dic ((e _ List.mem_cons_self).trans h) (DReps.stay k r)
  | _, _, _, .scr h, e => .scr (k.scr h)
  | _, _, _, .scr' h, e => .scr' ((e _ List.mem_cons_self).trans h)
  | _, _, _, .hid h, e => .hid ((e _ List.mem_cons_self).trans h)
theorem FReps.stay (k : Evo H H') : ∀ {vs : List V} {ds : List D} {F : List Addr}, FReps G H vs ds F → (∀ a ∈ F, H' a = H a) → FReps G H' vs ds F
  | _, _, _, .nil, _ => .nil
  | _, _, _, .cons r t, e => .cons (FRep.stay k r fun a m => e a (List.mem_append_left _ m)) (FReps.stay k t fun a m => e a (List.mem_append_right _ m))
theorem DReps.stay (k : Evo H H') : ∀ {kvs : List (Key × V)} {ks : List (Int × D)}, DReps G H kvs ks → DReps G H' kvs ks
  | _, _, .nil => .nil
  | _, _, .cons r t => .cons (FRep.stay k r fun _ m => nomatch m) (DReps.stay k t)
end
mutual
theorem FRep.nc : ∀ {v : V} {d : D} {F : List Addr}, FRep G H v d F → d.nc = true → F = []
  | _, _, _, .non, _ => rfl
  | _, _, _, .bl b, _ => rfl
  | _, _, _, .int i, _ => rfl
  | _, _, _, .tg t, _ => rfl
  | _, _, _, .obj a, _ => rfl
  | _, _, _, .exc h, _ => rfl
  | _, _, _, .tup h r, e => FReps.nc r (by simpa [D.nc] using e)
  | _, _, _, .lst h r, e => by simp [D.nc] at e
  | _, _, _, .dic h r, e => by simp [D.nc] at e
  | _, _, _, .scr h, e => by simp [D.nc] at e
  | _, _, _, .scr' h, e => by simp [D.nc] at e
  | _, _, _, .hid h, e => by simp [D.nc] at e
theorem FReps.nc : ∀ {vs : List V} {ds : List D} {F : List Addr}, FReps G H vs ds F → D.ncs ds = true → F = []
  | _, _, _, .nil, _ => rfl
  | _, _, _, .cons r t, e => by
    have e' := e
    simp only [D.ncs, Bool.and_eq_true] at e'
    rw [FRep.nc r e'.1, FReps.nc t e'.2]
    rfl
end
/-- every address of a tree is tracked (but the script's) -/
theorem FReps.length : ∀ {vs : List V} {ds : List D} {F : List Addr}, FReps G H vs ds F → vs.length = ds.length
  | _, _, _, .nil => rfl
  | _, _, _, .cons _ t => by simp [FReps.length t]
theorem FReps.get : ∀ {vs : List V} {ds : List D} {F : List Addr} {i : Nat} {d : D}, FReps G H vs ds F → ds[i]? = some d → ∃ v F', vs[i]? = some v ∧ FRep G H v d F' ∧ ∀ a ∈ F', a ∈ F
  | _, _, _, _, _, .nil, e => by simp at e
  | _, _, _, 0, _, .cons r t, e => by
    simp at e; subst e
    exact ⟨_, _, rfl, r, fun a m => List.mem_append_left _ m⟩
  | _, _, _, i + 1, _, .cons r t, e => by
    obtain ⟨v, F', h1, h2, h3⟩ := FReps.get (i := i) t (by simpa using e)
    exact ⟨v, F', by simpa using h1, h2, fun a m => List.mem_append_right _ (h3 a m)⟩
theorem FReps.append : ∀ {vs ws : List V} {ds es : List D} {F F' : List Addr}, FReps G H vs ds F → FReps G H ws es F' → FReps G H (vs ++ ws) (ds ++ es) (F ++ F')
  | _, _, _, _, _, _, .nil, s => s
  | _, _, _, _, _, _, .cons r t, s => by
    have q := FReps.append t s
    rw [List.append_assoc]
    exact .cons r q
/-- lists without lists in them -/
theorem FReps.set0 {d : D} {v : V} (q : FRep G H v d []) : ∀ {vs : List V} {ds : List D} {F : List Addr} (i : Nat), FReps G H vs ds F → F = [] → FReps G H (vs.set i v) (ds.set i d) []
  | _, _, _, _, .nil, _ => .nil
  | _, _, _, 0, .cons (F := F) (F' := F') r t, e => by
    obtain ⟨e1, e2⟩ := List.append_eq_nil_iff.mp e
    subst e1; subst e2
    exact FReps.cons (F := []) (F' := []) q t
  | _, _, _, i + 1, .cons (F := F) (F' := F') r t, e => by
    obtain ⟨e1, e2⟩ := List.append_eq_nil_iff.mp e
    subst e1; subst e2
    exact FReps.cons (F := []) (F' := []) r (FReps.set0 q i t rfl)
theorem FReps.set {d : D} {v : V} (q : FRep G H v d []) {vs : List V} {ds : List D} (i : Nat) (h : FReps G H vs ds []) : FReps G H (vs.set i v) (ds.set i d) [] := FReps.set0 q i h rfl
theorem FReps.rev0 : ∀ {vs : List V} {ds : List D} {F : List Addr}, FReps G H vs ds F → F = [] → FReps G H vs.reverse ds.reverse []
  | _, _, _, .nil, _ => .nil
  | _, _, _, .cons (F := F) (F' := F') r t, e => by
    obtain ⟨e1, e2⟩ := List.append_eq_nil_iff.mp e
    subst e1; subst e2
    rw [List.reverse_cons, List.reverse_cons]
    exact FReps.append (F := []) (F' := []) (FReps.rev0 t rfl) (FReps.cons (F := []) (F' := []) r .nil)
theorem FReps.one {v : V} {d : D} (q : FRep G H v d []) : FReps G H [v] [d] [] := FReps.cons (F := []) (F' := []) q .nil
theorem FReps.snoc {v : V} {d : D} {vs : List V} {ds : List D} (h : FReps G H vs ds []) (q : FRep G H v d []) : FReps G H (vs ++ [v]) (ds ++ [d]) [] := FReps.append (F := []) (F' := []) h (FReps.one q)
theorem DReps.length : ∀ {kvs : List (Key × V)} {ks : List (Int × D)}, DReps G H kvs ks → kvs.length = ks.length
  | _, _, .nil => rfl
  | _, _, .cons _ t => by simp [DReps.length t]
theorem DReps.get (k : Int) : ∀ {kvs : List (Key × V)} {ks : List (Int × D)}, DReps G H kvs ks →
    (dget ks k = none ∧ valV kvs (Sum.inl k) = none) ∨ ∃ d v, dget ks k = some d ∧ valV kvs (Sum.inl k) = some v ∧ FRep G H v d []
  | _, _, .nil => .inl ⟨rfl, rfl⟩
  | _, _, .cons (k := j) (v := v) (d := d) (kvs := kvs) (ks := ks) r t => by
    by_cases h : j = k
    · refine .inr ⟨d, v, ?_, ?_, r⟩
      · unfold dget; rw [List.find?_cons_of_pos (by simp [h])]; rfl
      · exact valV_pos (congrArg Sum.inl h)
    · have h' : ¬ (Sum.inl j : Key) = Sum.inl k := fun e => h (Sum.inl.inj e)
      have e1 : dget ((j, d) :: ks) k = dget ks k := by unfold dget; rw [List.find?_cons_of_neg (by simp [h])]
      have e2 : valV ((Sum.inl j, v) :: kvs) (Sum.inl k : Key) = valV kvs (Sum.inl k) := valV_neg h'
      rw [e1, e2]
      exact DReps.get k t
theorem DReps.any (k : Int) : ∀ {kvs : List (Key × V)} {ks : List (Int × D)}, DReps G H kvs ks → (kvs.any fun kv => decide (kv.1 = Sum.inl k)) = (ks.any fun kv => decide (kv.1 = k))
  | _, _, .nil => rfl
  | _, _, .cons (k := j) r t => by
    rw [List.any_cons, List.any_cons, DReps.any k t]
    congr 1
    by_cases h : j = k
    · subst h; simp
    · have h' : ¬ (Sum.inl j : Key) = Sum.inl k := fun e => h (Sum.inl.inj e)
      simp [h]
theorem DReps.mapP (k : Int) {v : V} {d : D} (q : FRep G H v d []) : ∀ {kvs : List (Key × V)} {ks : List (Int × D)}, DReps G H kvs ks →
    DReps G H (kvs.map fun kv => if kv.1 = Sum.inl k then (kv.1, v) else kv) (ks.map fun kv => if kv.1 = k then (kv.1, d) else kv)
  | _, _, .nil => .nil
  | _, _, .cons (k := j) r t => by
    rw [List.map_cons, List.map_cons]
    by_cases h : j = k
    · subst h
      rw [if_pos rfl, if_pos rfl]
      exact .cons q (DReps.mapP j q t)
    · have h' : ¬ (Sum.inl j : Key) = Sum.inl k := fun e => h (Sum.inl.inj e)
      rw [if_neg h', if_neg h]
      exact .cons r (DReps.mapP k q t)
theorem DReps.snoc {k : Int} {v : V} {d : D} (q : FRep G H v d []) : ∀ {kvs : List (Key × V)} {ks : List (Int × D)}, DReps G H kvs ks → DReps G H (kvs ++ [(Sum.inl k, v)]) (ks ++ [(k, d)])
  | _, _, .nil => .cons q .nil
  | _, _, .cons r t => .cons r (DReps.snoc q t)
theorem DReps.put (k : Int) {v : V} {d : D} (q : FRep G H v d []) {kvs : List (Key × V)} {ks : List (Int × D)} (h : DReps G H kvs ks) : DReps G H (putK kvs (Sum.inl k) v) (dput ks k d) := by
  unfold putK dput
  rw [DReps.any k h]
  by_cases c : (ks.any fun kv => decide (kv.1 = k)) = true
  · rw [if_pos c, if_pos c]; exact DReps.mapP k q h
  · rw [if_neg c, if_neg c]; exact DReps.snoc q h
theorem DReps.keys : ∀ {kvs : List (Key × V)} {ks : List (Int × D)}, DReps G H kvs ks → kvs.map (·.1) = (ks.map (·.1)).map Sum.inl
  | _, _, .nil => rfl
  | _, _, .cons r t => by simp [DReps.keys t]
end

/-! ### slots, fields, values at hand: the places -/
inductive Pl where
  | sl (i : Nat) | tm (i : Nat) | fd (p : Addr) (f : Fd)
  deriving DecidableEq
/-- what a place holds -/
inductive PV where
  | pc (x : PC)
  | rr (r : R)
def PV.own : PV → Bool
  | .pc x => x.own
  | .rr r => r.own
/-- its cells are younger than the def's entry -/
def PV.young : PV → Bool
  | .pc (.val _ y) => y
  | .pc _ => true
  | .rr r => r.yy
def plc (env : Env) (ts : List R) (w : Wd) : Pl → Option PV
  | .sl i => match env[i]? with
    | some (some x) => some (.pc x)
    | _ => none
  | .tm i => ts[i]?.map PV.rr
  | .fd p f => match w p with
    | some o => (fget o.fs f).map PV.pc
    | none => none
def CRep (G : SG) (H : Hp) : V → PC → List Addr → Prop
  | v, .val d _, F => FRep G H v d F
  | v, .lst ds, F => ∃ a vs, v = .ref a ∧ F = [a] ∧ H a = some (.lst vs) ∧ FReps G H vs ds []
  | v, .dic ks, F => ∃ a kvs, v = .ref a ∧ F = [a] ∧ H a = some (.dK kvs) ∧ DReps G H kvs ks
  | v, .mat rows, F => ∃ (a : Addr) (cs : List Addr), v = .ref a ∧ F = a :: cs ∧ F.Nodup ∧ H a = some (.lst (cs.map V.ref)) ∧ cs.length = rows.length ∧
      ∀ (j : Nat) (c : Addr) (ds : List D), cs[j]? = some c → rows[j]? = some ds → ∃ vs, H c = some (.lst vs) ∧ FReps G H vs ds []
def PRep (G : SG) (H : Hp) : V → PV → List Addr → Prop
  | v, .pc x, F => CRep G H v x F
  | v, .rr r, F => FRep G H v r.d F
/-- two places that may not share a cell where the first one owns its -/
def Apart (x : Pl) (y : Pl) (py : PV) : Prop := x ≠ y ∧ ¬ ∃ i k r, x = .sl i ∧ y = .tm k ∧ py = .rr r ∧ r.zz = false

/-- the entry: the heap, what may be written, what the objects' values hold -/
structure Bs where
  H0 : Hp
  M0 : Addr → Prop
  X0 : Addr → Prop
  P0 : Addr → Prop
structure Gh where
  v : Pl → V
  F : Pl → List Addr

structure Sim (G : SG) (b : Bs) (g : Gh) (ts : List R) (env : Env) (w : Wd) (σ : St) (H : Hp) : Prop where
  rep : ∀ x p, plc env ts w x = some p → PRep G H (g.v x) p (g.F x)
  sig : ∀ i x, env[i]? = some (some x) → σ[i]? = some (some (g.v (.sl i)))
  dj : ∀ x y p q, plc env ts w x = some p → plc env ts w y = some q → p.own = true → Apart x y q → ∀ a ∈ g.F x, a ∉ g.F y
  ins : ∀ p o, w p = some o → ∃ dx, H p = some (.ins (G.ca o.c) dx (o.fs.map fun z => (fdS z.1, g.v (.fd p z.1)))) ∧ (o.fs.map (·.1)).Nodup ∧ G.hc o.c = true
  yg : ∀ x p, (∀ q f, x ≠ .fd q f) → plc env ts w x = some p → p.young = true → ∀ a ∈ g.F x, b.H0 a = none
  yf : ∀ q f p, plc env ts w (.fd q f) = some p → ∀ a ∈ g.F (.fd q f), b.H0 a = none ∨ b.M0 a ∨ (b.X0 a ∧ p.own = false)
  yo : ∀ p o, w p = some o → b.M0 p ∨ b.H0 p = none
  fr : ∀ a o, b.H0 a = some o → ¬ b.M0 a → H a = some o
  gr : ∀ a, H a = none → b.H0 a = none
  len : env.length = σ.length
  yp : ∀ x p, (∀ q f, x ≠ .fd q f) → plc env ts w x = some p → ∀ a ∈ g.F x, b.H0 a = none ∨ b.P0 a ∨ b.M0 a ∨ b.X0 a
  fy : ∀ x p q f pq, (∀ q f, x ≠ .fd q f) → plc env ts w x = some p → p.young = true → plc env ts w (.fd q f) = some pq → ∀ a ∈ g.F x, a ∉ g.F (.fd q f)

theorem PRep.stay {G : SG} {H H' : Hp} (k : Evo H H') {v : V} {p : PV} {F : List Addr} (h : PRep G H v p F) (e : ∀ a ∈ F, H' a = H a) : PRep G H' v p F := by
  cases p with
  | rr r => exact FRep.stay k h e
  | pc x =>
    cases x with
    | val d y => exact FRep.stay k h e
    | lst ds =>
      obtain ⟨a, vs, rfl, rfl, ha, r⟩ := h
      exact ⟨a, vs, rfl, rfl, (e a List.mem_cons_self).trans ha, r.stay k fun _ m => nomatch m⟩
    | dic ks =>
      obtain ⟨a, vs, rfl, rfl, ha, r⟩ := h
      exact ⟨a, vs, rfl, rfl, (e a List.mem_cons_self).trans ha, r.stay k⟩
    | mat rows =>
      obtain ⟨a, cs, rfl, rfl, nd, ha, hl, r⟩ := h
      refine ⟨a, cs, rfl, rfl, nd, (e a List.mem_cons_self).trans ha, hl, fun j c ds hc hr => ?_⟩
      obtain ⟨vs, h1, h2⟩ := r j c ds hc hr
      exact ⟨vs, (e c (List.mem_cons_of_mem _ (List.mem_of_getElem? hc))).trans h1, h2.stay k fun _ m => nomatch m⟩
/-- a cell that is tracked -/
theorem same_at {H H' : Hp} (s : Same H H') {a : Addr} (h : H a ≠ none) : H' a = H a := by
  cases e : H a with
  | none => exact absurd e h
  | some o => exact s a o e
section
variable {G : SG} {H H' : Hp}
mutual
theorem FRep.cells : ∀ {v : V} {d : D} {F : List Addr}, FRep G H v d F → ∀ a ∈ F, H a ≠ none
  | _, _, _, .non, _, m => nomatch m
  | _, _, _, .bl b, _, m => nomatch m
  | _, _, _, .int i, _, m => nomatch m
  | _, _, _, .tg t, _, m => nomatch m
  | _, _, _, .obj a, _, m => nomatch m
  | _, _, _, .exc h, _, m => nomatch m
  | _, _, _, .tup h r, a, m => FReps.cells r a m
  | _, _, _, .lst h r, a, m => by
    rcases List.mem_cons.mp m with e | m
    · rw [e, h]; simp
    · exact FReps.cells r a m
  | _, _, _, .dic h r, a, m => by rw [List.mem_singleton.mp m, h]; simp
  | _, _, _, .scr h, a, m => nomatch m
  | _, _, _, .scr' h, a, m => by rw [List.mem_singleton.mp m, h]; simp
  | _, _, _, .hid h, a, m => by rw [List.mem_singleton.mp m, h]; simp
theorem FReps.cells : ∀ {vs : List V} {ds : List D} {F : List Addr}, FReps G H vs ds F → ∀ a ∈ F, H a ≠ none
  | _, _, _, .nil, _, m => nomatch m
  | _, _, _, .cons r t, a, m => by
    rcases List.mem_append.mp m with m | m
    · exact FRep.cells r a m
    · exact FReps.cells t a m
end
theorem PRep.cells {v : V} {p : PV} {F : List Addr} (h : PRep G H v p F) : ∀ a ∈ F, H a ≠ none := by
  intro a m
  cases p with
  | rr r => exact FRep.cells h a m
  | pc x =>
    cases x with
    | val d y => exact FRep.cells h a m
    | lst ds =>
      obtain ⟨a', vs, rfl, rfl, ha, r⟩ := h
      rw [List.mem_singleton.mp m, ha]; simp
    | dic ks =>
      obtain ⟨a', vs, rfl, rfl, ha, r⟩ := h
      rw [List.mem_singleton.mp m, ha]; simp
    | mat rows =>
      obtain ⟨a', cs, rfl, rfl, nd, ha, hl, r⟩ := h
      rcases List.mem_cons.mp m with e | m
      · rw [e, ha]; simp
      · obtain ⟨j, hj⟩ := List.getElem?_of_mem m
        have hjl : j < rows.length := by rw [← hl]; exact (List.getElem?_eq_some_iff.mp hj).1
        obtain ⟨vs, h1, _⟩ := r j a (rows[j]) hj (List.getElem?_eq_getElem hjl)
        rw [h1]; simp
theorem PRep.same (s : Same H H') {v : V} {p : PV} {F : List Addr} (h : PRep G H v p F) : PRep G H' v p F := h.stay (Evo.same s) fun a m => same_at s (h.cells a m)
theorem FRep.same (s : Same H H') {v : V} {d : D} {F : List Addr} (h : FRep G H v d F) : FRep G H' v d F := h.stay (Evo.same s) fun a m => same_at s (h.cells a m)
theorem FReps.same (s : Same H H') {v : List V} {d : List D} {F : List Addr} (h : FReps G H v d F) : FReps G H' v d F := h.stay (Evo.same s) fun a m => same_at s (h.cells a m)
end
theorem same_upd {H : Hp} {p : Addr} {o : HO} (h : H p = none) : Same H (upd H p o) := fun b u e => by rw [upd_ne (ne_of_none e h)]; exact e

section
variable {G : SG} {b : Bs} {g : Gh} {ts us : List R} {env env' : Env} {w w' : Wd} {σ σ' : St} {H H' : Hp}
/-- more stands in the heap -/
theorem Sim.same (S : Sim G b g ts env w σ H) (s : Same H H') : Sim G b g ts env w σ H' where
  rep := fun x p e => (S.rep x p e).same s
  sig := S.sig
  dj := S.dj
  ins := fun p o e => let ⟨dx, h, n⟩ := S.ins p o e; ⟨dx, s _ _ h, n⟩
  yg := S.yg
  yf := S.yf
  yo := S.yo
  fr := fun a o e n => s _ _ (S.fr a o e n)
  gr := fun a e => S.gr a (s.free e)
  len := S.len
  yp := S.yp
  fy := S.fy
/-- places forgotten -/
theorem Sim.weak (S : Sim G b g ts env w σ H) (hp : ∀ x p, plc env' us w' x = some p → plc env ts w x = some p) (hs : ∀ i x, env'[i]? = some (some x) → σ'[i]? = some (some (g.v (.sl i)))) (hw : ∀ p o, w' p = some o → w p = some o) (hl : env'.length = σ'.length) :
    Sim G b g us env' w' σ' H where
  rep := fun x p e => S.rep x p (hp x p e)
  sig := hs
  dj := fun x y p q e1 e2 => S.dj x y p q (hp x p e1) (hp y q e2)
  ins := fun p o e => S.ins p o (hw p o e)
  yg := fun x p n e => S.yg x p n (hp x p e)
  yf := fun q f p e => S.yf q f p (hp _ p e)
  yo := fun p o e => S.yo p o (hw p o e)
  fr := S.fr
  gr := S.gr
  len := hl
  yp := fun x p n e => S.yp x p n (hp x p e)
  fy := fun x p q f pq n e y e2 => S.fy x p q f pq n (hp x p e) y (hp _ pq e2)
theorem plc_le (h : Wd.le w' w) {x : Pl} {p : PV} (e : plc env ts w' x = some p) : plc env ts w x = some p := by
  cases x with
  | sl i => exact e
  | tm i => exact e
  | fd q f =>
    simp only [plc] at e ⊢
    cases hq : w' q with
    | none => rw [hq] at e; cases e
    | some o => rw [hq] at e; rw [h q o hq]; exact e
theorem Sim.forget (S : Sim G b g ts env w σ H) (h : Wd.le w' w) : Sim G b g ts env w' σ H := S.weak (fun _ _ e => plc_le h e) S.sig h S.len
theorem plc_tm {k : Nat} : plc env ts w (.tm k) = ts[k]?.map PV.rr := rfl
theorem plc_app {x : Pl} {p : PV} (e : plc env ts w x = some p) : plc env (ts ++ us) w x = some p := by
  cases x with
  | sl i => exact e
  | fd q f => exact e
  | tm k =>
    simp only [plc] at e ⊢
    cases hk : ts[k]? with
    | none => rw [hk] at e; cases e
    | some r => rw [hk] at e; rw [List.getElem?_append_left (List.getElem?_eq_some_iff.mp hk).1, hk]; exact e
/-- the last values at hand are let go -/
theorem Sim.drop (S : Sim G b g (ts ++ us) env w σ H) : Sim G b g ts env w σ H := S.weak (fun _ _ e => plc_app e) S.sig (fun _ _ e => e) S.len

def Gh.put (g : Gh) (x : Pl) (v : V) (F : List Addr) : Gh := ⟨fun y => if y = x then v else g.v y, fun y => if y = x then F else g.F y⟩
theorem Gh.put_v {g : Gh} {x : Pl} {v : V} {F : List Addr} : (g.put x v F).v x = v := if_pos rfl
theorem Gh.put_F {g : Gh} {x : Pl} {v : V} {F : List Addr} : (g.put x v F).F x = F := if_pos rfl
theorem Gh.put_v' {g : Gh} {x y : Pl} {v : V} {F : List Addr} (h : y ≠ x) : (g.put x v F).v y = g.v y := if_neg h
theorem Gh.put_F' {g : Gh} {x y : Pl} {v : V} {F : List Addr} (h : y ≠ x) : (g.put x v F).F y = g.F y := if_neg h

/-- a cell that nobody has -/
def Fresh (b : Bs) (g : Gh) (ts : List R) (env : Env) (w : Wd) (a : Addr) : Prop := b.H0 a = none ∧ ∀ y p, plc env ts w y = some p → a ∉ g.F y
theorem Sim.fresh (S : Sim G b g ts env w σ H) {a : Addr} (h : H a = none) : Fresh b g ts env w a := ⟨S.gr a h, fun y p e m => (S.rep y p e).cells a m h⟩
/-- of a cell of the new value: it is one of a value at hand, or nobody's -/
def From (b : Bs) (g : Gh) (ts us : List R) (env : Env) (w : Wd) (r : R) (a : Addr) : Prop :=
  (r.own = false ∧ ∃ k rk, us[k]? = some rk ∧ a ∈ g.F (.tm (ts.length + k)) ∧ (r.zz = true → rk.zz = true) ∧ (r.yy = true → rk.yy = true)) ∨ Fresh b g (ts ++ us) env w a ∨
    (r.own = false ∧ ∃ y p, (∀ k, y ≠ .tm k) ∧ plc env (ts ++ us) w y = some p ∧ a ∈ g.F y ∧ (p.own = true → (∃ i, y = .sl i) ∧ r.zz = false) ∧ (r.yy = true → (∀ q f, y ≠ .fd q f) ∧ p.young = true))
/-- values at hand are used up by a new one -/
theorem Sim.push (S : Sim G b g (ts ++ us) env w σ H) {v : V} {r : R} {F : List Addr} (h : FRep G H v r.d F) (hF : ∀ a ∈ F, From b g ts us env w r a) :
    Sim G b (g.put (.tm ts.length) v F) (ts ++ [r]) env w σ H := by
  have old : ∀ x p, plc env (ts ++ [r]) w x = some p → x ≠ .tm ts.length → plc env (ts ++ us) w x = some p ∧ plc env ts w x = some p := by
    intro x p e n
    cases x with
    | sl i => exact ⟨e, e⟩
    | fd q f => exact ⟨e, e⟩
    | tm k =>
      have e' : (ts ++ [r])[k]?.map PV.rr = some p := e
      have hk : k < ts.length := by
        have h1 : k < (ts ++ [r]).length := by
          cases hq : (ts ++ [r])[k]? with
          | none => rw [hq] at e'; cases e'
          | some z => exact (List.getElem?_eq_some_iff.mp hq).1
        simp at h1
        rcases Nat.lt_or_ge k ts.length with h2 | h2
        · exact h2
        · exact absurd (congrArg Pl.tm (Nat.le_antisymm (by omega) h2)) n
      rw [List.getElem?_append_left hk] at e'
      refine ⟨?_, e'⟩
      show (ts ++ us)[k]?.map PV.rr = some p
      rw [List.getElem?_append_left hk]; exact e'
  have new : ∀ p, plc env (ts ++ [r]) w (.tm ts.length) = some p → p = .rr r := by
    intro p e
    have e' : (ts ++ [r])[ts.length]?.map PV.rr = some p := e
    rw [List.getElem?_append_right (Nat.le_refl _), Nat.sub_self] at e'
    exact (Option.some.inj e').symm
  refine ⟨fun x p e => ?_, fun i x e => ?_, fun x y p q e1 e2 ho ap a m => ?_, fun p o e => ?_, fun x p n e yy a m => ?_, fun q f p e a m => ?_, S.yo, S.fr, S.gr, S.len, fun x p n e a m => ?_, fun x p q f pq n e yy e2 a m => ?_⟩
  · by_cases hx : x = .tm ts.length
    · subst hx
      rw [new p e, Gh.put_v, Gh.put_F]
      exact h
    · rw [Gh.put_v' hx, Gh.put_F' hx]
      exact S.rep x p (old x p e hx).1
  · rw [Gh.put_v' (by intro z; cases z)]
    exact S.sig i x e
  · by_cases hx : x = .tm ts.length
    · subst hx
      have hp := new p e1
      subst hp
      have hy : y ≠ .tm ts.length := fun z => ap.1 z.symm
      rw [Gh.put_F] at m
      rw [Gh.put_F' hy]
      rcases hF a m with ⟨z, _⟩ | fr | ⟨z, _⟩
      · have ho' : r.own = true := ho
        rw [z] at ho'; cases ho'
      · exact fr.2 y q (old y q e2 hy).1
      · have ho' : r.own = true := ho
        rw [z] at ho'; cases ho'
    · rw [Gh.put_F' hx] at m
      have o1 := (old x p e1 hx).1
      by_cases hy : y = .tm ts.length
      · subst hy
        have hq := new q e2
        subst hq
        rw [Gh.put_F]
        intro m2
        rcases hF a m2 with ⟨_, k, rk, hk, mk, hz, _⟩ | fr | ⟨_, y0, p0, hnt, hp0, m0, ho0, _⟩
        · have e3 : plc env (ts ++ us) w (.tm (ts.length + k)) = some (.rr rk) := by
            show (ts ++ us)[ts.length + k]?.map PV.rr = some (.rr rk)
            rw [List.getElem?_append_right (Nat.le_add_right _ _), Nat.add_sub_cancel_left, hk]; rfl
          refine S.dj x _ p _ o1 e3 ho ⟨?_, ?_⟩ a m mk
          · intro z
            cases x with
            | tm j =>
              have hj : j < ts.length := by
                have o2 : ts[j]?.map PV.rr = some p := (old _ p e1 hx).2
                cases hq : ts[j]? with
                | none => rw [hq] at o2; cases o2
                | some z => exact (List.getElem?_eq_some_iff.mp hq).1
              have := Pl.tm.inj z
              omega
            | sl i => cases z
            | fd q f => cases z
          · rintro ⟨i, k2, r2, rfl, e4, e5, e6⟩
            have e7 : rk = r2 := PV.rr.inj e5
            subst e7
            refine ap.2 ⟨i, ts.length, r, rfl, rfl, rfl, ?_⟩
            cases hr : r.zz with
            | false => rfl
            | true => rw [hz hr] at e6; cases e6
        · exact fr.2 x p o1 m
        · by_cases hxy : x = y0
          · subst hxy
            rw [hp0] at o1
            have ep := Option.some.inj o1
            subst ep
            obtain ⟨⟨i, rfl⟩, hz⟩ := ho0 ho
            exact ap.2 ⟨i, ts.length, r, rfl, rfl, rfl, hz⟩
          · exact S.dj x y0 p p0 o1 hp0 ho ⟨hxy, fun ⟨_, k, _, _, z, _⟩ => hnt k z⟩ a m m0
      · rw [Gh.put_F' hy]
        exact S.dj x y p q o1 (old y q e2 hy).1 ho ap a m
  · obtain ⟨dx, h1, h2⟩ := S.ins p o e
    refine ⟨dx, ?_, h2⟩
    rw [h1]
    congr 2
    
  · by_cases hx : x = .tm ts.length
    · subst hx
      have hp := new p e
      subst hp
      rw [Gh.put_F] at m
      rcases hF a m with ⟨_, k, rk, hk, mk, _, hy⟩ | fr | ⟨_, y0, p0, hnt, hp0, m0, _, hy0⟩
      · have e3 : plc env (ts ++ us) w (.tm (ts.length + k)) = some (.rr rk) := by
          show (ts ++ us)[ts.length + k]?.map PV.rr = some (.rr rk)
          rw [List.getElem?_append_right (Nat.le_add_right _ _), Nat.add_sub_cancel_left, hk]; rfl
        exact S.yg _ _ (by intro _ _ z; cases z) e3 (hy yy) a mk
      · exact fr.1
      · exact S.yg y0 p0 (hy0 yy).1 hp0 (hy0 yy).2 a m0
    · rw [Gh.put_F' hx] at m
      exact S.yg x p n (old x p e hx).1 yy a m
  · rw [Gh.put_F' (by intro z; cases z)] at m
    exact S.yf q f p e a m
  · by_cases hx : x = .tm ts.length
    · subst hx
      rw [Gh.put_F] at m
      rcases hF a m with ⟨_, k, rk, hk, mk, _, hy⟩ | fr | ⟨_, y0, p0, hnt, hp0, m0, _, hy0⟩
      · have e3 : plc env (ts ++ us) w (.tm (ts.length + k)) = some (.rr rk) := by
          show (ts ++ us)[ts.length + k]?.map PV.rr = some (.rr rk)
          rw [List.getElem?_append_right (Nat.le_add_right _ _), Nat.add_sub_cancel_left, hk]; rfl
        exact S.yp _ _ (by intro _ _ z; cases z) e3 a mk
      · exact .inl fr.1
      · by_cases hfd : ∃ q f, y0 = .fd q f
        · obtain ⟨q, f, rfl⟩ := hfd
          rcases S.yf q f p0 hp0 a m0 with z | z | z
          · exact .inl z
          · exact .inr (.inr (.inl z))
          · exact .inr (.inr (.inr z.1))
        · exact S.yp y0 p0 (fun q f z => hfd ⟨q, f, z⟩) hp0 a m0
    · rw [Gh.put_F' hx] at m
      exact S.yp x p n (old x p e hx).1 a m
  · rw [Gh.put_F' (by intro z; cases z)]
    have e2' : plc env (ts ++ us) w (.fd q f) = some pq := e2
    by_cases hx : x = .tm ts.length
    · subst hx
      have hp := new p e
      subst hp
      rw [Gh.put_F] at m
      rcases hF a m with ⟨_, k, rk, hk, mk, _, hy⟩ | fr | ⟨_, y0, p0, hnt, hp0, m0, _, hy0⟩
      · have e3 : plc env (ts ++ us) w (.tm (ts.length + k)) = some (.rr rk) := by
          show (ts ++ us)[ts.length + k]?.map PV.rr = some (.rr rk)
          rw [List.getElem?_append_right (Nat.le_add_right _ _), Nat.add_sub_cancel_left, hk]; rfl
        exact S.fy _ _ q f pq (by intro _ _ z; cases z) e3 (hy yy) e2' a mk
      · exact fr.2 _ pq e2'
      · exact S.fy y0 p0 q f pq (hy0 yy).1 hp0 (hy0 yy).2 e2' a m0
    · rw [Gh.put_F' hx] at m
      exact S.fy x p q f pq n (old x p e hx).1 yy e2' a m
/-- of a young place: its cells are new, and no field's -/
theorem Sim.ygf (S : Sim G b g ts env w σ H) (x : Pl) (p : PV) (n : ∀ q f, x ≠ .fd q f) (e : plc env ts w x = some p) (y : p.young = true) : ∀ a ∈ g.F x, b.H0 a = none ∧ ∀ q f pq, plc env ts w (.fd q f) = some pq → a ∉ g.F (.fd q f) :=
  fun a m => ⟨S.yg x p n e y a m, fun q f pq e2 => S.fy x p q f pq n e y e2 a m⟩
theorem Fresh.ygf {b : Bs} {g : Gh} {ts : List R} {env : Env} {w : Wd} {a : Addr} (h : Fresh b g ts env w a) : b.H0 a = none ∧ ∀ q f pq, plc env ts w (.fd q f) = some pq → a ∉ g.F (.fd q f) := ⟨h.1, fun q f pq e => h.2 _ pq e⟩
end
end LL
end
section
set_option Elab.async false
set_option linter.all false
set_option maxRecDepth 100000
/-! LExp: expressions. -/
namespace LL
open PySem L2

/-- what an exception is to be worth -/
def XOk (G : SG) (b : Bs) (W : WX) (ts : List R) (env : Env) (σ : St) (E0 : XKd) : Prop :=
  ∀ x w' g' H', E0 x w' → Sim G b g' ts env w' σ H' → W (.ref (G.xc x)) none σ H'
theorem XOk.app {G : SG} {b : Bs} {W : WX} {ts us : List R} {env : Env} {σ : St} {E0 : XKd} (h : XOk G b W ts env σ E0) : XOk G b W (ts ++ us) env σ E0 :=
  fun x w' g' H' q S => h x w' g' H' q S.drop
/-- the values at hand are as they were -/
def Keeps (g g' : Gh) (n : Nat) : Prop := ∀ k, k < n → g'.v (.tm k) = g.v (.tm k)
def tE (G : SG) (b : Bs) (W : WX) (τ : Env → Wd → VK → XKd → Prop) : TE := fun σ H Q => ∃ g ts env w Q0 E0,
  Sim G b g ts env w σ H ∧ τ env w Q0 E0 ∧ (∀ r w' g' H', Q0 r w' → Sim G b g' (ts ++ [r]) env w' σ H' → Keeps g g' ts.length → Q (g'.v (.tm ts.length)) H') ∧ XOk G b W ts env σ E0

structure Hand (G : SG) (b : Bs) (g : Gh) (ts us : List R) (env : Env) (w : Wd) (σ : St) (H : Hp) (Q0 : VK) (Q : L2.VK) : Prop where
  sim : Sim G b g (ts ++ us) env w σ H
  fin : ∀ r w' g' H', Q0 r w' → Sim G b g' (ts ++ [r]) env w' σ H' → Keeps g g' ts.length → Q (g'.v (.tm ts.length)) H'
section
variable {G : SG} {b : Bs} {W : WX} {g : Gh} {ts us : List R} {env : Env} {w : Wd} {σ : St} {H H' : Hp} {Q0 : VK} {Q : L2.VK} {E0 : XKd}
theorem Hand.rep (h : Hand G b g ts us env w σ H Q0 Q) {k : Nat} {r : R} (e : us[k]? = some r) : FRep G H (g.v (.tm (ts.length + k))) r.d (g.F (.tm (ts.length + k))) := by
  refine h.sim.rep (.tm (ts.length + k)) (.rr r) ?_
  show (ts ++ us)[ts.length + k]?.map PV.rr = some (.rr r)
  rw [List.getElem?_append_right (Nat.le_add_right _ _), Nat.add_sub_cancel_left, e]; rfl
theorem Hand.rep0 {r : R} {us : List R} (h : Hand G b g ts (r :: us) env w σ H Q0 Q) : FRep G H (g.v (.tm ts.length)) r.d (g.F (.tm ts.length)) := h.rep (k := 0) rfl
theorem Hand.rep1 {r r' : R} {us : List R} (h : Hand G b g ts (r' :: r :: us) env w σ H Q0 Q) : FRep G H (g.v (.tm (ts.length + 1))) r.d (g.F (.tm (ts.length + 1))) := h.rep (k := 1) rfl
theorem Hand.done (h : Hand G b g ts us env w σ H Q0 Q) {r : R} {v : V} {F : List Addr} (q : Q0 r w) (s : Same H H') (rep : FRep G H' v r.d F) (hF : ∀ a ∈ F, From b g ts us env w r a) : Q v H' := by
  have S := (h.sim.same s).push rep hF
  have := h.fin r w _ H' q S fun k hk => Gh.put_v' (by intro e; have := Pl.tm.inj e; omega)
  rw [Gh.put_v] at this
  exact this
theorem Hand.scal (h : Hand G b g ts us env w σ H Q0 Q) {r : R} {v : V} (q : Q0 r w) (rep : FRep G H v r.d []) : Q v H := h.done q (Same.refl H) rep fun _ m => nomatch m
/-- a new object of the machine, whose parts hold no cells -/
theorem Hand.new (h : Hand G b g ts us env w σ H Q0 Q) {r : R} {p : Addr} {o : HO} (q : Q0 r w) (hp : H p = none) (rep : FRep G (upd H p o) (.ref p) r.d [p]) : Q (.ref p) (upd H p o) :=
  h.done q (same_upd hp) rep fun a m => by
    rw [List.mem_singleton.mp m]
    exact .inr (.inl (h.sim.fresh hp))
theorem tE_one {τa : Env → Wd → VK → XKd → Prop} {P : Env → R → Wd → VK → XKd → Prop} (h : tE G b W (fun env w Q E => τa env w (fun x w1 => P env x w1 Q E) E) σ H Q) :
    tE G b W τa σ H (fun x H1 => ∃ g ts env r w1 Q0 E0, Hand G b g ts [r] env w1 σ H1 Q0 Q ∧ x = g.v (.tm ts.length) ∧ P env r w1 Q0 E0 ∧ XOk G b W ts env σ E0) := by
  obtain ⟨g, ts, env, w, Q0, E0, S, ht, hq, hx⟩ := h
  refine ⟨g, ts, env, w, _, E0, S, ht, fun r w' g' H' p S' k => ?_, hx⟩
  exact ⟨g', ts, env, r, w', Q0, E0, ⟨S', fun r2 w2 g2 H2 q2 S2 k2 => hq r2 w2 g2 H2 q2 S2 fun j hj => (k2 j hj).trans (k j hj)⟩, rfl, p, hx⟩
theorem tE_two {τa τb : Env → Wd → VK → XKd → Prop} {P : Env → R → R → Wd → VK → XKd → Prop} (h : tE G b W (fun env w Q E => τa env w (fun x w1 => τb env w1 (fun y w2 => P env x y w2 Q E) E) E) σ H Q) :
    tE G b W τa σ H (fun x H1 => tE G b W τb σ H1 (fun y H2 => ∃ g ts env r r2 w2 Q0 E0, Hand G b g ts [r, r2] env w2 σ H2 Q0 Q ∧ x = g.v (.tm ts.length) ∧ y = g.v (.tm (ts.length + 1)) ∧ P env r r2 w2 Q0 E0 ∧ XOk G b W ts env σ E0)) := by
  obtain ⟨g, ts, env, w, Q0, E0, S, ht, hq, hx⟩ := h
  refine ⟨g, ts, env, w, _, E0, S, ht, fun r w' g' H' p S' k => ?_, hx⟩
  refine ⟨g', ts ++ [r], env, w', _, E0, S', p, fun r2 w2 g2 H2 p2 S2 k2 => ?_, hx.app⟩
  rw [List.append_assoc] at S2
  refine ⟨g2, ts, env, r, r2, w2, Q0, E0, ⟨S2, fun r3 w3 g3 H3 q3 S3 k3 => hq r3 w3 g3 H3 q3 S3 fun j hj => ((k3 j hj).trans (k2 j (by simp; omega))).trans (k j hj)⟩, ?_, ?_, p2, hx⟩
  · exact (k2 ts.length (by simp)).symm
  · simp
theorem tE_imp {τ τ' : Env → Wd → VK → XKd → Prop} (h : tE G b W τ σ H Q) (i : ∀ env w Q E, τ env w Q E → τ' env w Q E) : tE G b W τ' σ H Q := by
  obtain ⟨g, ts, env, w, Q0, E0, S, ht, hq, hx⟩ := h
  exact ⟨g, ts, env, w, Q0, E0, S, i _ _ _ _ ht, hq, hx⟩
theorem tE_mono {τ : Env → Wd → VK → XKd → Prop} {Q' : L2.VK} (h : tE G b W τ σ H Q) (i : ∀ v H, Q v H → Q' v H) : tE G b W τ σ H Q' := by
  obtain ⟨g, ts, env, w, Q0, E0, S, ht, hq, hx⟩ := h
  exact ⟨g, ts, env, w, Q0, E0, S, ht, fun r w' g' H' q S' k => i _ _ (hq r w' g' H' q S' k), hx⟩
/-- at once: nothing is reckoned before -/
theorem tE_zero {τ : Env → Wd → VK → XKd → Prop} (h : tE G b W τ σ H Q) : ∃ g ts env w Q0 E0, Hand G b g ts [] env w σ H Q0 Q ∧ τ env w Q0 E0 ∧ XOk G b W ts env σ E0 := by
  obtain ⟨g, ts, env, w, Q0, E0, S, ht, hq, hx⟩ := h
  exact ⟨g, ts, env, w, Q0, E0, ⟨by rw [List.append_nil]; exact S, hq⟩, ht, hx⟩
end
theorem PE.imp {X : Cx} {e : Expr} {t t' : TE} (h : PE X e t) (i : ∀ σ H Q, t' σ H Q → t σ H Q) : PE X e t' := ⟨fun pins s σ H Q I q => h.run pins s σ H Q I (i σ H Q q)⟩

section
variable {Fn : Type} {Phi : Fn → LSp} {X : Cx} {G : SG} {b : Bs} {W : WX}
variable {e e1 e2 e3 : Expr} {m m1 m2 m3 : ME Fn} {pos : Pos}
/-- the expression e is the mini expression m -/
abbrev LE (Phi : Fn → LSp) (X : Cx) (G : SG) (b : Bs) (W : WX) (m : ME Fn) (e : Expr) : Prop := PE X e (tE G b W (lev Phi m))

theorem CRep.toR {G : SG} {H : Hp} {v : V} {x : PC} {F : List Addr} (h : CRep G H v x F) : FRep G H v x.toR.d F := by
  cases x with
  | val d y => exact h
  | lst ds =>
    obtain ⟨a, vs, rfl, rfl, ha, r⟩ := h
    exact .lst ha r
  | dic ks =>
    obtain ⟨a, vs, rfl, rfl, ha, r⟩ := h
    exact .dic ha r
  | mat rows =>
    obtain ⟨a, cs, rfl, rfl, nd, ha, hl, r⟩ := h
    refine .lst ha ?_
    clear ha nd
    induction rows generalizing cs with
    | nil =>
      have : cs = [] := List.eq_nil_of_length_eq_zero hl
      subst this
      exact .nil
    | cons ds rows ih =>
      cases cs with
      | nil => simp at hl
      | cons c cs =>
        obtain ⟨vs, h1, h2⟩ := r 0 c ds rfl rfl
        exact FReps.cons (F := [c]) (F' := cs) (.lst h1 h2) (ih cs (by simpa using hl) fun j c' ds' e1 e2 => r (j + 1) c' ds' (by simpa using e1) (by simpa using e2))
theorem le_var {i : Nat} {x : Str} (hN : X.N[i]? = some x) (hv : Vis X.env.scope x) (hd : (x == ("__debug__" : Str)) = false) (hcd : (x == ("__classdict__" : Str)) = false) : LE Phi X G b W (.var i) (.Name x pos) := by
  refine PE.imp (pe_var hN hv hd hcd) fun σ H Q h => ?_
  obtain ⟨g, ts, env, w, Q0, E0, S, ht, hq, hx⟩ := h
  simp only [lev, onSlot] at ht
  cases he : env[i]? with
  | none => rw [he] at ht; exact ht.elim
  | some o =>
    cases o with
    | none => rw [he] at ht; exact ht.elim
    | some pc =>
      rw [he] at ht
      have ht : Q0 pc.toR w := ht
      refine ⟨_, S.sig i pc he, ?_⟩
      have hr := S.rep (.sl i) (.pc pc) (by simp only [plc, he])
      have hh : Hand G b g ts [] env w σ H Q0 Q := ⟨by rw [List.append_nil]; exact S, hq⟩
      refine hh.done (r := pc.toR) ht (Same.refl H) (CRep.toR hr) fun a m => .inr (.inr ⟨by cases pc <;> rfl, .sl i, .pc pc, (by intro k z; cases z), (by simp only [plc, he]), m, ?_, ?_⟩)
      · intro ho
        refine ⟨⟨i, rfl⟩, ?_⟩
        cases pc with
        | val d y => cases ho
        | lst ds => rfl
        | mat rows => rfl
        | dic ks => rfl
      · intro hy
        refine ⟨(by intro q f z; cases z), ?_⟩
        cases pc with
        | val d y =>
          have hy' : (y || d.nc) = true := hy
          cases hn : d.nc with
          | true =>
            have hr' : FRep G H (g.v (.sl i)) d (g.F (.sl i)) := hr
            rw [FRep.nc hr' hn] at m; cases m
          | false => rw [hn, Bool.or_false] at hy'; exact hy'
        | lst ds => rfl
        | mat rows => rfl
        | dic ks => rfl
theorem le_cst_int {i : Int} {j : Nat} : LE Phi X G b W (.cst (.int i)) (.Constant (.int i) j pos) :=
  PE.imp pe_int fun σ H Q h => by
    obtain ⟨g, ts, env, w, Q0, E0, hh, ht, hx⟩ := tE_zero (tE_imp h fun env w Q E q => by simp only [lev] at q; exact q)
    exact hh.scal ht (.int i)
theorem le_cst_bl {i : Bool} {j : Nat} : LE Phi X G b W (.cst (.bl i)) (.Constant (.bool i) j pos) :=
  PE.imp pe_bl fun σ H Q h => by
    obtain ⟨g, ts, env, w, Q0, E0, hh, ht, hx⟩ := tE_zero (tE_imp h fun env w Q E q => by simp only [lev] at q; exact q)
    exact hh.scal ht (.bl i)
theorem le_cst_non {j : Nat} : LE Phi X G b W (.cst .non) (.Constant .none j pos) :=
  PE.imp pe_non fun σ H Q h => by
    obtain ⟨g, ts, env, w, Q0, E0, hh, ht, hx⟩ := tE_zero (tE_imp h fun env w Q E q => by simp only [lev] at q; exact q)
    exact hh.scal ht .non
theorem le_cst_tg {t : Tg} {j : Nat} : LE Phi X G b W (.cst (.tg t)) (.Constant (.str (tgS t)) j pos) :=
  PE.imp pe_str fun σ H Q h => by
    obtain ⟨g, ts, env, w, Q0, E0, hh, ht, hx⟩ := tE_zero (tE_imp h fun env w Q E q => by simp only [lev] at q; exact q)
    exact hh.scal ht (.tg t)
theorem le_neg {i : Int} {j : Nat} {p : Pos} : LE Phi X G b W (.cst (.int (-i))) (.UnaryOp .USub (.Constant (.int i) j p) pos) :=
  PE.imp (pe_un un_neg pe_int) fun σ H Q h => by
    obtain ⟨g, ts, env, w, Q0, E0, hh, ht, hx⟩ := tE_zero (tE_imp h fun env w Q E q => by simp only [lev] at q; exact q)
    exact ⟨i, rfl, hh.scal ht (.int (-i))⟩

theorem FRep.int_of {G : SG} {H : Hp} {v : V} {i : Int} {F : List Addr} (h : FRep G H v (.int i) F) : v = .int i := by cases h; rfl
theorem FRep.bl_of {G : SG} {H : Hp} {v : V} {i : Bool} {F : List Addr} (h : FRep G H v (.bl i) F) : v = .bl i := by cases h; rfl
theorem FRep.lst_of {G : SG} {H : Hp} {v : V} {ds : List D} {F : List Addr} (h : FRep G H v (.lst ds) F) : ∃ a vs F', v = .ref a ∧ H a = some (.lst vs) ∧ FReps G H vs ds F' ∧ F = a :: F' := by
  cases h with
  | lst h1 h2 => exact ⟨_, _, _, rfl, h1, h2, rfl⟩
theorem FRep.tup_of {G : SG} {H : Hp} {v : V} {ds : List D} {F : List Addr} (h : FRep G H v (.tup ds) F) : ∃ a vs, v = .ref a ∧ SqT G.K H a vs ∧ FReps G H vs ds F := by
  cases h with
  | tup h1 h2 => exact ⟨_, _, rfl, h1, h2⟩
theorem FRep.dic_of {G : SG} {H : Hp} {v : V} {ks : List (Int × D)} {F : List Addr} (h : FRep G H v (.dic ks) F) : ∃ a kvs, v = .ref a ∧ H a = some (.dK kvs) ∧ DReps G H kvs ks ∧ F = [a] := by
  cases h with
  | dic h1 h2 => exact ⟨_, _, rfl, h1, h2, rfl⟩
theorem FRep.obj_of {G : SG} {H : Hp} {v : V} {a : Addr} {F : List Addr} (h : FRep G H v (.obj a) F) : v = .ref a := by cases h; rfl
theorem lst_rep {G : SG} {H : Hp} {p : Addr} {vs : List V} {ds : List D} (h : H p = none) (r : FReps G H vs ds []) : FRep G (upd H p (.lst vs)) (.ref p) (.lst ds) [p] :=
  .lst upd_same (r.same (same_upd h))
theorem ncs_nil {G : SG} {H : Hp} {vs : List V} {ds : List D} {F : List Addr} (h : FReps G H vs ds F) (n : D.ncs ds = true) : FReps G H vs ds [] := by
  have := FReps.nc h n
  subst this
  exact h
theorem top_line : (top : Nat) ≤ sizeLine := by rw [sizeLine_eq]; decide

/-! ### operators -/
def opOf : Bop → Operator
  | .add => .Add
  | .sub => .Sub
  | .mul => .Mult
  | .fdiv => .FloorDiv
  | .mod => .Mod
theorem FReps.rep {G : SG} {H : Hp} {vs : List V} {ds : List D} (h : FReps G H vs ds []) : ∀ n : Nat, FReps G H (List.replicate n vs).flatten (List.replicate n ds).flatten []
  | 0 => .nil
  | n + 1 => by
    rw [List.replicate_succ, List.replicate_succ, List.flatten_cons, List.flatten_cons]
    exact FReps.append (F := []) (F' := []) h (FReps.rep h n)
def rBin (K : PySem.W.Frag) : Bop → R2
  | .add => fun x y H Q => rI0 (fun i j => .int (i + j)) x y H Q ∨ rCat x y H Q
  | .sub => rI0 fun i j => .int (i - j)
  | .mul => fun x y H Q => rI CMul (fun i j => .int (i * j)) x y H Q ∨ rRep x y H Q
  | .fdiv => rI CDiv fun i j => .int (i / j)
  | .mod => rI (fun _ j => 0 < j) fun i j => .int (i % j)
theorem op_bin (o : Bop) : OpR X (binaryOp (opOf o)) (rBin X.K o) := by
  cases o with
  | add => exact OpR.or op_add op_cat
  | sub => exact op_sub
  | mul => exact OpR.or op_mul op_rep
  | fdiv => exact op_fdiv
  | mod => exact op_mod
theorem bin_ok {o : Bop} {g : Gh} {ts : List R} {env : Env} {r r2 : R} {w2 : Wd} {Q0 : VK} {σ : St} {H : Hp} {Q : L2.VK} (hh : Hand G b g ts [r, r2] env w2 σ H Q0 Q)
    (q : binop o r.d r2.d (fun r => Q0 r w2)) : rBin X.K o (g.v (.tm ts.length)) (g.v (.tm (ts.length + 1))) H Q := by
  have e0 := hh.rep0
  have e1 := hh.rep1
  obtain ⟨d, z, y, f⟩ := r
  obtain ⟨d2, z2, y2, f2⟩ := r2
  cases o with
  | add =>
    cases d with
    | int i =>
      cases d2 with
      | int j => exact .inl ⟨i, j, e0.int_of, e1.int_of, hh.scal q (.int _)⟩
      | _ => exact q.elim
    | lst as =>
      cases d2 with
      | lst bs =>
        obtain ⟨a, vs, F1, h1, h2, h3, _⟩ := FRep.lst_of e0
        obtain ⟨a', vs', F2, h1', h2', h3', _⟩ := FRep.lst_of e1
        obtain ⟨q1, q2, q3, q⟩ := q
        refine .inr ⟨a, a', vs, vs', h1, h1', h2, h2', ?_, fun p hp => ?_⟩
        · rw [h3.length, h3'.length]; exact Nat.le_trans q1 top_line
        · exact hh.new q hp (lst_rep hp (FReps.append (F := []) (F' := []) (ncs_nil h3 q2) (ncs_nil h3' q3)))
      | _ => exact q.elim
    | _ => exact q.elim
  | sub =>
    cases d with
    | int i =>
      cases d2 with
      | int j => exact ⟨i, j, e0.int_of, e1.int_of, hh.scal q (.int _)⟩
      | _ => exact q.elim
    | _ => exact q.elim
  | mul =>
    cases d with
    | int i =>
      cases d2 with
      | int j => exact .inl ⟨i, j, e0.int_of, e1.int_of, q.1, hh.scal q.2 (.int _)⟩
      | _ => exact q.elim
    | lst as =>
      cases d2 with
      | int k =>
        obtain ⟨a, vs, F1, h1, h2, h3, _⟩ := FRep.lst_of e0
        obtain ⟨q1, q2, q3, q4, q⟩ := q
        refine .inr ⟨a, k, vs, h1, e1.int_of, h2, by omega, by omega, ?_, fun p hp => ?_⟩
        · rw [h3.length, sizeLine_eq]
          have hk : k.toNat ≤ 1000 := by omega
          exact Nat.le_trans (Nat.mul_le_mul q3 hk) (by decide)
        · exact hh.new q hp (lst_rep hp (FReps.rep (ncs_nil h3 q4) _))
      | _ => exact q.elim
    | _ => exact q.elim
  | fdiv =>
    cases d with
    | int i =>
      cases d2 with
      | int j => exact ⟨i, j, e0.int_of, e1.int_of, ⟨q.1, q.2.1⟩, hh.scal q.2.2 (.int _)⟩
      | _ => exact q.elim
    | _ => exact q.elim
  | mod =>
    cases d with
    | int i =>
      cases d2 with
      | int j => exact ⟨i, j, e0.int_of, e1.int_of, q.1, hh.scal q.2 (.int _)⟩
      | _ => exact q.elim
    | _ => exact q.elim
theorem le_bin {o : Bop} (h1 : LE Phi X G b W m1 e1) (h2 : LE Phi X G b W m2 e2) : LE Phi X G b W (.bin o m1 m2) (.BinOp e1 (opOf o) e2 pos) := by
  refine PE.imp (pe_op (op_bin o) h1 h2) fun σ H Q h => ?_
  have h' := tE_two (P := fun _ x y w2 Q _ => binop o x.d y.d fun r => Q r w2) (tE_imp h fun env w Q E q => by simp only [lev] at q; exact q)
  refine tE_mono h' fun x H1 q => tE_mono q fun y H2 q => ?_
  obtain ⟨g, ts, env, r, r2, w2, Q0, E0, hh, rfl, rfl, q, hx⟩ := q
  exact bin_ok hh q
end
end LL
end
section
set_option Elab.async false
set_option linter.all false
set_option maxRecDepth 100000
/-! LExp2: comparisons, tests, items, fields. -/
namespace LL
open PySem L2

/-! ### trees as the library's data -/
mutual
def D.py : D → PyData
  | .non => .none
  | .bl b => .bool b
  | .int i => .int i
  | .tg t => .str (tgS t)
  | .tup ds => .tuple (D.pys ds)
  | .lst ds => .list (D.pys ds)
  | _ => .none
def D.pys : List D → List PyData
  | [] => []
  | d :: ds => d.py :: D.pys ds
end
theorem tg_ne : ∀ a b : Tg, (tgS a == tgS b) = decide (a = b) := by
  intro a b
  cases a <;> cases b <;> decide +kernel
mutual
theorem eqv_py : ∀ (n k : Nat) (a b : D), a.plN n = true → b.plN k = true → PyData.eqv a.py b.py = D.eqv a b
  | _, _, .non, b, _, hb => by cases b <;> simp_all [D.py, PyData.eqv, D.eqv, D.plN]
  | _, _, .bl x, b, _, hb => by cases b <;> simp_all [D.py, PyData.eqv, D.eqv, D.plN]
  | _, _, .int x, b, _, hb => by cases b <;> simp_all [D.py, PyData.eqv, D.eqv, D.plN]
  | _, _, .tg x, b, _, hb => by cases b <;> simp_all [D.py, PyData.eqv, D.eqv, D.plN, tg_ne]
  | n, k, .tup xs, b, ha, hb => by
    cases n with
    | zero => simp [D.plN] at ha
    | succ n =>
      cases b with
      | tup ys =>
        cases k with
        | zero => simp [D.plN] at hb
        | succ k => simp only [D.py, PyData.eqv, D.eqv]; exact eqvs_py n k xs ys (by simpa [D.plN] using ha) (by simpa [D.plN] using hb)
      | _ => first | rfl | simp [D.py, PyData.eqv, D.eqv] | (simp [D.plN] at hb)
  | n, k, .lst xs, b, ha, hb => by
    cases n with
    | zero => simp [D.plN] at ha
    | succ n =>
      cases b with
      | lst ys =>
        cases k with
        | zero => simp [D.plN] at hb
        | succ k => simp only [D.py, PyData.eqv, D.eqv]; exact eqvs_py n k xs ys (by simpa [D.plN] using ha) (by simpa [D.plN] using hb)
      | _ => first | rfl | simp [D.py, PyData.eqv, D.eqv] | (simp [D.plN] at hb)
  | _, _, .dic _, _, ha, _ => by simp [D.plN] at ha
  | _, _, .obj _, _, ha, _ => by simp [D.plN] at ha
  | _, _, .exc _, _, ha, _ => by simp [D.plN] at ha
  | _, _, .scr _, _, ha, _ => by simp [D.plN] at ha
  | _, _, .hid, _, ha, _ => by simp [D.plN] at ha
theorem eqvs_py : ∀ (n k : Nat) (a b : List D), D.plsN n a = true → D.plsN k b = true → PyData.eqvAll (D.pys a) (D.pys b) = D.eqvs a b
  | _, _, [], b, _, _ => by cases b <;> rfl
  | n, k, x :: xs, [], _, _ => rfl
  | n, k, x :: xs, y :: ys, ha, hb => by
    simp only [D.plsN, Bool.and_eq_true] at ha hb
    simp only [D.pys, PyData.eqvAll, D.eqvs]
    rw [eqv_py n k x y ha.1 hb.1, eqvs_py n k xs ys ha.2 hb.2]
end
mutual
theorem py_depth : ∀ (n : Nat) (d : D), d.plN n = true → PyData.canLay0 d.py = true ∧ PyData.depth d.py ≤ n
  | _, .non, _ => ⟨rfl, by simp [D.py, PyData.depth]⟩
  | _, .bl _, _ => ⟨rfl, by simp [D.py, PyData.depth]⟩
  | _, .int _, _ => ⟨rfl, by simp [D.py, PyData.depth]⟩
  | _, .tg t, _ => ⟨by cases t <;> decide +kernel, by simp [D.py, PyData.depth]⟩
  | n, .tup ds, h => by
    cases n with
    | zero => simp [D.plN] at h
    | succ n =>
      obtain ⟨h1, h2⟩ := pys_depth n ds (by simpa [D.plN] using h)
      exact ⟨h1, by simp only [D.py, PyData.depth]; omega⟩
  | n, .lst ds, h => by
    cases n with
    | zero => simp [D.plN] at h
    | succ n =>
      obtain ⟨h1, h2⟩ := pys_depth n ds (by simpa [D.plN] using h)
      exact ⟨h1, by simp only [D.py, PyData.depth]; omega⟩
  | _, .dic _, h => by simp [D.plN] at h
  | _, .obj _, h => by simp [D.plN] at h
  | _, .exc _, h => by simp [D.plN] at h
  | _, .scr _, h => by simp [D.plN] at h
  | _, .hid, h => by simp [D.plN] at h
theorem pys_depth : ∀ (n : Nat) (ds : List D), D.plsN n ds = true → PyData.canLayAll0 (D.pys ds) = true ∧ PyData.depthAll (D.pys ds) ≤ n
  | _, [], _ => ⟨rfl, Nat.zero_le _⟩
  | n, d :: ds, h => by
    simp only [D.plsN, Bool.and_eq_true] at h
    obtain ⟨h1, h2⟩ := py_depth n d h.1
    obtain ⟨h3, h4⟩ := pys_depth n ds h.2
    refine ⟨by simp only [D.pys, PyData.canLayAll0, h1, h3, Bool.and_self], ?_⟩
    simp only [D.pys, PyData.depthAll]
    omega
end
theorem py_shaped {d : D} (h : d.pl = true) : SeqAt.shaped d.py = true := by
  obtain ⟨h1, h2⟩ := py_depth 8 d h
  unfold SeqAt.shaped
  rw [h1, decide_eq_true (by omega)]
  rfl
section
variable {G : SG} {H : Hp}
mutual
theorem FRep.dp : ∀ (n : Nat) {v : V} {d : D} {F : List Addr}, FRep G H v d F → d.plN n = true → Dp G.K H v d.py
  | _, _, _, _, .non, _ => .non
  | _, _, _, _, .bl b, _ => .bl b
  | _, _, _, _, .int i, _ => .int i
  | _, _, _, _, .tg t, _ => .str _
  | _, _, _, _, .obj a, h => by simp [D.plN] at h
  | _, _, _, _, .exc _, h => by simp [D.plN] at h
  | 0, _, _, _, .tup _ _, h => by simp [D.plN] at h
  | n + 1, _, _, _, .tup h1 h2, h => .tup h1 (FReps.dp n h2 (by simpa [D.plN] using h))
  | 0, _, _, _, .lst _ _, h => by simp [D.plN] at h
  | n + 1, _, _, _, .lst h1 h2, h => .lst (SqL.of h1) (FReps.dp n h2 (by simpa [D.plN] using h))
  | _, _, _, _, .dic _ _, h => by simp [D.plN] at h
  | _, _, _, _, .scr _, h => by simp [D.plN] at h
  | _, _, _, _, .scr' _, h => by simp [D.plN] at h
  | _, _, _, _, .hid _, h => by simp [D.plN] at h
theorem FReps.dp : ∀ (n : Nat) {vs : List V} {ds : List D} {F : List Addr}, FReps G H vs ds F → D.plsN n ds = true → DpAll G.K H vs (D.pys ds)
  | _, _, _, _, .nil, _ => .nil
  | n, _, _, _, .cons r t, h => by
    simp only [D.plsN, Bool.and_eq_true] at h
    exact .cons (FRep.dp n r h.1) (FReps.dp n t h.2)
end
end
theorem any_py : ∀ (k : Nat) (ds : List D) (x : D), D.plsN k ds = true → x.pl = true → ((D.pys ds).any fun z => PyData.eqv z x.py) = ds.any fun z => D.eqv z x
  | _, [], _, _, _ => rfl
  | k, d :: ds, x, h, hx => by
    simp only [D.plsN, Bool.and_eq_true] at h
    simp only [D.pys, List.any_cons]
    rw [eqv_py k 8 d x h.1 hx, any_py k ds x h.2 hx]

section
variable {Fn : Type} {Phi : Fn → LSp} {X : Cx} {G : SG} {b : Bs} {W : WX}
variable {e e1 e2 e3 : Expr} {m m1 m2 m3 : ME Fn} {pos : Pos}
theorem op_dIn (hu : X.A.units + 1 < cLine) : OpR X (compareOp .In) (fun y x H Q => ∃ a o, x = .ref a ∧ DGet H a y o ∧ Q (.bl o.isSome) H) := by
  intro pins s σ H y x v u Q I ry rx h
  obtain ⟨a, o, rfl, g, q⟩ := h
  obtain rfl : u = Value.ref a := rx
  exact d_in hu I g ry fun s3 I3 => ⟨.bl o.isSome, H, I3, rfl, q⟩
theorem op_dNotIn (hu : X.A.units + 1 < cLine) : OpR X (compareOp .NotIn) (fun y x H Q => ∃ a o, x = .ref a ∧ DGet H a y o ∧ Q (.bl (!o.isSome)) H) := by
  intro pins s σ H y x v u Q I ry rx h
  obtain ⟨a, o, rfl, g, q⟩ := h
  obtain rfl : u = Value.ref a := rx
  exact d_notIn hu I g ry fun s3 I3 => ⟨.bl (!o.isSome), H, I3, rfl, q⟩
def copOf : Cop → CmpOp
  | .lt => .Lt
  | .le => .LtE
  | .gt => .Gt
  | .ge => .GtE
  | .eq => .Eq
  | .ne => .NotEq
  | .isIn => .In
  | .notIn => .NotIn
def rCop (K : PySem.W.Frag) : Cop → R2
  | .lt => rI0 fun i j => .bl (decide (i < j))
  | .le => rI0 fun i j => .bl (decide (i ≤ j))
  | .gt => rI0 fun i j => .bl (decide (j < i))
  | .ge => rI0 fun i j => .bl (decide (j ≤ i))
  | .eq => rEqD K
  | .ne => rNeD K
  | .isIn => fun x y H Q => rInD K x y H Q ∨ ∃ a o, y = .ref a ∧ DGet H a x o ∧ Q (.bl o.isSome) H
  | .notIn => fun x y H Q => rNotInD K x y H Q ∨ ∃ a o, y = .ref a ∧ DGet H a x o ∧ Q (.bl (!o.isSome)) H
theorem op_cop (hu : X.A.units + 65 < cLine) (o : Cop) : OpR X (compareOp (copOf o)) (rCop X.K o) := by
  cases o with
  | lt => exact op_lt
  | le => exact op_le
  | gt => exact op_gt
  | ge => exact op_ge
  | eq => exact op_eqD (by omega)
  | ne => exact op_neD (by omega)
  | isIn => exact OpR.or (op_inD hu) (op_dIn (by omega))
  | notIn => exact OpR.or (op_notInD hu) (op_dNotIn (by omega))
/-- by values -/
theorem cop_ok {o : Cop} {H : Hp} {v v2 : V} {d d2 : D} {F F2 : List Addr} {Q : Bool → Prop} {R : L2.VK} (e0 : FRep G H v d F) (e1 : FRep G H v2 d2 F2) (q : cmpop o d d2 Q) (hR : ∀ k, Q k → R (.bl k) H) : rCop G.K o v v2 H R := by
  cases o with
  | lt =>
    cases d with
    | int i =>
      cases d2 with
      | int j => exact ⟨i, j, e0.int_of, e1.int_of, hR _ q⟩
      | _ => exact q.elim
    | _ => exact q.elim
  | le =>
    cases d with
    | int i =>
      cases d2 with
      | int j => exact ⟨i, j, e0.int_of, e1.int_of, hR _ q⟩
      | _ => exact q.elim
    | _ => exact q.elim
  | gt =>
    cases d with
    | int i =>
      cases d2 with
      | int j => exact ⟨i, j, e0.int_of, e1.int_of, hR _ q⟩
      | _ => exact q.elim
    | _ => exact q.elim
  | ge =>
    cases d with
    | int i =>
      cases d2 with
      | int j => exact ⟨i, j, e0.int_of, e1.int_of, hR _ q⟩
      | _ => exact q.elim
    | _ => exact q.elim
  | eq =>
    simp only [cmpop] at q
    obtain ⟨h1, h2, q⟩ := q
    exact ⟨d.py, d2.py, e0.dp 8 h1, e1.dp 8 h2, py_shaped h1, py_shaped h2, by rw [eqv_py 8 8 d d2 h1 h2]; exact hR _ q⟩
  | ne =>
    simp only [cmpop] at q
    obtain ⟨h1, h2, q⟩ := q
    exact ⟨d.py, d2.py, e0.dp 8 h1, e1.dp 8 h2, py_shaped h1, py_shaped h2, by rw [eqv_py 8 8 d d2 h1 h2]; exact hR _ q⟩
  | isIn =>
    cases d2 with
    | lst ds =>
      simp only [cmpop] at q
      obtain ⟨h1, h2, q⟩ := q
      refine .inl ⟨d.py, D.pys ds, e0.dp 8 h1, e1.dp 8 h2, py_shaped h1, py_shaped h2, ?_⟩
      rw [any_py 7 ds d (by simpa [D.pl, D.plN] using h2) h1]
      exact hR _ q
    | dic ks =>
      cases d with
      | int k =>
        simp only [cmpop] at q
        obtain ⟨a, kvs, h1, h2, h3, _⟩ := e1.dic_of
        refine .inr ⟨a, valV kvs (Sum.inl k), h1, ?_, ?_⟩
        · rw [e0.int_of]; exact DGet.k (k := Sum.inl k) h2
        · rcases h3.get k with ⟨z1, z2⟩ | ⟨d', v', z1, z2, _⟩ <;> (rw [z2]; rw [z1] at q; exact hR _ q)
      | _ => exact absurd q (by simp [cmpop])
    | _ => exact absurd q (by simp [cmpop])
  | notIn =>
    cases d2 with
    | lst ds =>
      simp only [cmpop] at q
      obtain ⟨h1, h2, q⟩ := q
      refine .inl ⟨d.py, D.pys ds, e0.dp 8 h1, e1.dp 8 h2, py_shaped h1, py_shaped h2, ?_⟩
      rw [any_py 7 ds d (by simpa [D.pl, D.plN] using h2) h1]
      exact hR _ q
    | dic ks =>
      cases d with
      | int k =>
        simp only [cmpop] at q
        obtain ⟨a, kvs, h1, h2, h3, _⟩ := e1.dic_of
        refine .inr ⟨a, valV kvs (Sum.inl k), h1, ?_, ?_⟩
        · rw [e0.int_of]; exact DGet.k (k := Sum.inl k) h2
        · rcases h3.get k with ⟨z1, z2⟩ | ⟨d', v', z1, z2, _⟩ <;> (rw [z2]; rw [z1] at q; exact hR _ q)
      | _ => exact absurd q (by simp [cmpop])
    | _ => exact absurd q (by simp [cmpop])
theorem le_cmp {o : Cop} (hK : G.K = X.K) (hu : X.A.units + 65 < cLine) (hm : behindInMarks (copOf o) e2 = false) (h1 : LE Phi X G b W m1 e1) (h2 : LE Phi X G b W m2 e2) :
    LE Phi X G b W (.cmp o m1 m2) (.Compare e1 [copOf o] [e2] pos) := by
  refine PE.imp (pe_cmpR (op_cop hu o) h1 h2 hm) fun σ H Q h => ?_
  have h' := tE_two (P := fun _ x y w2 Q _ => cmpop o x.d y.d fun r => Q (sc (.bl r)) w2) (tE_imp h fun env w Q E q => by simp only [lev] at q; exact q)
  refine tE_mono h' fun x H1 q => tE_mono q fun y H2 q => ?_
  obtain ⟨g, ts, env, r, r2, w2, Q0, E0, hh, rfl, rfl, q, hx⟩ := q
  rw [← hK]
  exact cop_ok hh.rep0 hh.rep1 q fun k q => hh.scal q (.bl k)
end
end LL
end
section
set_option Elab.async false
set_option linter.all false
set_option maxRecDepth 100000
/-! LExp3: tests, items, fields, displays. -/
namespace LL
open PySem L2
/-- what the top has written of the classes and their fields -/
structure CTx (G : SG) (X : Cx) : Prop where
  kk : G.K = X.K
  cls : ∀ c, G.hc c = true → Cls X.K (G.ca c)
  noa : ∀ c f, G.hc c = true → NoAttr X.K (G.ca c) (fdS f)
  un : X.A.units + 65 < cLine
  mgN : ∀ x : Str, x ∈ ([("len" : Str), "sorted", "list", "min", "max", "int", "isinstance", "range", "bool", "tuple", "str", "ValueError"] : List Str) → X.mg x = none
section
variable {Fn : Type} {Phi : Fn → LSp} {X : Cx} {G : SG} {b : Bs} {W : WX}
variable {e e1 e2 e3 : Expr} {m m1 m2 m3 : ME Fn} {pos : Pos}
theorem le_chain {o p : Cop} (T : CTx G X) (hm : lastMarks [copOf o, copOf p] [e2, e3] = false) (h1 : LE Phi X G b W m1 e1) (h2 : LE Phi X G b W m2 e2) (h3 : LE Phi X G b W m3 e3) :
    LE Phi X G b W (.chain o p m1 m2 m3) (.Compare e1 [copOf o, copOf p] [e2, e3] pos) := by
  refine PE.imp (pe_chain (op_cop T.un o) (op_cop T.un p) h1 h2 h3 hm) fun σ H Q h => ?_
  have h' := tE_two (P := fun env x y w2 Q E => cmpop o x.d y.d fun r => (r = true → lev Phi m3 env w2 (fun z w3 => cmpop p y.d z.d fun r2 => Q (sc (.bl r2)) w3) E) ∧ (r = false → Q (sc (.bl false)) w2)) (tE_imp h fun env w Q E q => by simp only [lev] at q; exact q)
  refine tE_mono h' fun x H1 q => tE_mono q fun y H2 q => ?_
  obtain ⟨g, ts, env, r, r2, w2, Q0, E0, hh, rfl, rfl, q, hx⟩ := q
  rw [← T.kk]
  refine cop_ok hh.rep0 hh.rep1 q fun k q => ⟨k, rfl, ?_⟩
  cases k with
  | false => exact iteF (hh.scal (q.2 rfl) (.bl false))
  | true =>
    refine iteT ?_
    refine ⟨g, ts ++ [r, r2], env, w2, _, E0, hh.sim, q.1 rfl, fun r3 w3 g3 H3 q3 S3 k3 => ?_, hx.app⟩
    rw [List.append_assoc] at S3
    have hh3 : Hand G b g3 ts ([r, r2] ++ [r3]) env w3 σ H3 Q0 Q := ⟨S3, fun r4 w4 g4 H4 q4 S4 k4 => hh.fin r4 w4 g4 H4 q4 S4 fun j hj => (k4 j hj).trans (k3 j (by simp; omega))⟩
    have e1 := hh3.rep (k := 1) (r := r2) rfl
    have e2 := hh3.rep (k := 2) (r := r3) rfl
    rw [k3 (ts.length + 1) (by simp)] at e1
    have hl : (ts ++ [r, r2]).length = ts.length + 2 := by simp
    rw [hl]
    exact cop_ok e1 e2 q3 fun k q => hh3.scal q (.bl k)
theorem non_iff {G : SG} {H : Hp} {v : V} {d : D} {F : List Addr} (h : FRep G H v d F) : decide (v = .non) = d.isNon := by
  cases h <;> first | rfl | exact decide_eq_true rfl | exact decide_eq_false (by intro z; cases z)
theorem le_isN {j : Nat} {pos' : Pos} (h1 : LE Phi X G b W m1 e1) : LE Phi X G b W (.isN m1) (.Compare e1 [.Is] [.Constant .none j pos'] pos) := by
  refine PE.imp (pe_cmp (pc_isN h1)) fun σ H Q h => ?_
  refine tE_mono (tE_one (P := fun _ x w1 Q _ => Q (sc (.bl x.d.isNon)) w1) (tE_imp h fun env w Q E q => by simp only [lev] at q; exact q)) fun x H1 q => ?_
  obtain ⟨g, ts, env, r, w2, Q0, E0, hh, rfl, q, hx⟩ := q
  rw [non_iff hh.rep0]
  exact hh.scal q (.bl _)
theorem le_notN {j : Nat} {pos' : Pos} (h1 : LE Phi X G b W m1 e1) : LE Phi X G b W (.notN m1) (.Compare e1 [.IsNot] [.Constant .none j pos'] pos) := by
  refine PE.imp (pe_cmp (pc_notN h1)) fun σ H Q h => ?_
  refine tE_mono (tE_one (P := fun _ x w1 Q _ => Q (sc (.bl (!x.d.isNon))) w1) (tE_imp h fun env w Q E q => by simp only [lev] at q; exact q)) fun x H1 q => ?_
  obtain ⟨g, ts, env, r, w2, Q0, E0, hh, rfl, q, hx⟩ := q
  rw [non_iff hh.rep0]
  exact hh.scal q (.bl _)
/-- and then another one, the first one let go -/
theorem Hand.go {G : SG} {b : Bs} {W : WX} {g : Gh} {ts us : List R} {env : Env} {w : Wd} {σ : St} {H : Hp} {Q0 : VK} {Q : L2.VK} {E0 : XKd} (hh : Hand G b g ts us env w σ H Q0 Q) (hx : XOk G b W ts env σ E0)
    {τ : Env → Wd → VK → XKd → Prop} (q : τ env w Q0 E0) : tE G b W τ σ H Q :=
  ⟨g, ts, env, w, Q0, E0, hh.sim.drop, q, fun r w' g' H' q' S' k => hh.fin r w' g' H' q' S' k, hx⟩
theorem onBl_some {d : D} {P : Bool → Prop} (h : d.onBl P) : ∃ c, d = .bl c ∧ P c := by
  cases d with
  | bl c => exact ⟨c, rfl, h⟩
  | _ => exact h.elim
theorem onInt_some {d : D} {P : Int → Prop} (h : d.onInt P) : ∃ c, d = .int c ∧ P c := by
  cases d with
  | int c => exact ⟨c, rfl, h⟩
  | _ => exact h.elim
theorem onLst_some {d : D} {P : List D → Prop} (h : d.onLst P) : ∃ c, d = .lst c ∧ P c := by
  cases d with
  | lst c => exact ⟨c, rfl, h⟩
  | _ => exact h.elim
theorem onTup_some {d : D} {P : List D → Prop} (h : d.onTup P) : ∃ c, d = .tup c ∧ P c := by
  cases d with
  | tup c => exact ⟨c, rfl, h⟩
  | _ => exact h.elim
theorem onScr_some {d : D} {P : List Int → Prop} (h : d.onScr P) : ∃ c, d = .scr c ∧ P c := by
  cases d with
  | scr c => exact ⟨c, rfl, h⟩
  | _ => exact h.elim
theorem onDic_some {d : D} {P : List (Int × D) → Prop} (h : d.onDic P) : ∃ c, d = .dic c ∧ P c := by
  cases d with
  | dic c => exact ⟨c, rfl, h⟩
  | _ => exact h.elim
theorem onObj_some {d : D} {P : Nat → Prop} (h : d.onObj P) : ∃ c, d = .obj c ∧ P c := by
  cases d with
  | obj c => exact ⟨c, rfl, h⟩
  | _ => exact h.elim
theorem onSome_some {α : Type} {o : Option α} {P : α → Prop} (h : onSome o P) : ∃ c, o = some c ∧ P c := by
  cases o with
  | some c => exact ⟨c, rfl, h⟩
  | none => exact h.elim
theorem le_and {rest : List Expr} (h1 : LE Phi X G b W m1 e1) (h2 : LE Phi X G b W m2 (.BoolOp .And (e2 :: rest) pos)) : LE Phi X G b W (.and m1 m2) (.BoolOp .And (e1 :: e2 :: rest) pos) := by
  refine PE.imp (pe_and h1 h2) fun σ H Q h => ?_
  refine tE_mono (tE_one (P := fun env x w1 Q E => x.d.onBl fun c => (c = true → lev Phi m2 env w1 Q E) ∧ (c = false → Q (sc (.bl false)) w1)) (tE_imp h fun env w Q E q => by simp only [lev] at q; exact q)) fun x H1 q => ?_
  obtain ⟨g, ts, env, r, w2, Q0, E0, hh, rfl, q, hx⟩ := q
  obtain ⟨c, hd, q⟩ := onBl_some q
  have e0 := hh.rep0
  rw [hd] at e0
  refine ⟨c, e0.bl_of, ?_⟩
  cases c with
  | true => exact iteT (hh.go hx (q.1 rfl))
  | false => exact iteF (hh.scal (q.2 rfl) (.bl false))
theorem le_or {rest : List Expr} (h1 : LE Phi X G b W m1 e1) (h2 : LE Phi X G b W m2 (.BoolOp .Or (e2 :: rest) pos)) : LE Phi X G b W (.or m1 m2) (.BoolOp .Or (e1 :: e2 :: rest) pos) := by
  refine PE.imp (pe_or h1 h2) fun σ H Q h => ?_
  refine tE_mono (tE_one (P := fun env x w1 Q E => x.d.onBl fun c => (c = true → Q (sc (.bl true)) w1) ∧ (c = false → lev Phi m2 env w1 Q E)) (tE_imp h fun env w Q E q => by simp only [lev] at q; exact q)) fun x H1 q => ?_
  obtain ⟨g, ts, env, r, w2, Q0, E0, hh, rfl, q, hx⟩ := q
  obtain ⟨c, hd, q⟩ := onBl_some q
  have e0 := hh.rep0
  rw [hd] at e0
  refine ⟨c, e0.bl_of, ?_⟩
  cases c with
  | true => exact iteT (hh.scal (q.1 rfl) (.bl true))
  | false => exact iteF (hh.go hx (q.2 rfl))
theorem tru_of {H : Hp} {v : V} {d : D} {F : List Addr} {c : Bool} (h : FRep G H v d F) (e : truth d = some c) : TruV X.K v H c := by
  cases h with
  | bl b => exact (Option.some.inj e).symm
  | lst h1 h2 =>
    refine .inl ⟨_, SqL.of h1, ?_⟩
    have e' := Option.some.inj e
    have hl := h2.length
    rw [← e']
    cases h2 <;> rfl
  | _ => cases e
theorem le_not (h1 : LE Phi X G b W m1 e1) : LE Phi X G b W (.not m1) (.UnaryOp .Not e1 pos) := by
  refine PE.imp (pe_notT h1) fun σ H Q h => ?_
  refine tE_mono (tE_one (P := fun env x w1 Q E => onSome (truth x.d) fun c => Q (sc (.bl (!c))) w1) (tE_imp h fun env w Q E q => by simp only [lev] at q; exact q)) fun x H1 q => ?_
  obtain ⟨g, ts, env, r, w2, Q0, E0, hh, rfl, q, hx⟩ := q
  obtain ⟨c, hd, q⟩ := onSome_some q
  exact ⟨c, tru_of hh.rep0 hd, hh.scal q (.bl _)⟩

/-! ### items -/
theorem at0_some {α : Type} {xs : List α} {k : Int} {x : α} (h : at0 xs k = some x) : 0 ≤ k ∧ xs[k.toNat]? = some x := by
  unfold at0 at h
  split at h
  · exact ⟨by assumption, h⟩
  · cases h
theorem atI_of {vs : List V} {k : Int} {v : V} (h0 : 0 ≤ k) (h : vs[k.toNat]? = some v) : atI vs k = some v := by
  have e : k = (k.toNat : Int) := by omega
  rw [e]
  exact atI_nat (by simpa using h)
theorem FRep.scr_of {G : SG} {H : Hp} {v : V} {ns : List Int} {F : List Addr} (h : FRep G H v (.scr ns) F) : ∃ a, v = .ref a ∧ SqL G.K H a (ns.map V.int) := by
  cases h with
  | scr hs => exact ⟨_, rfl, hs.sq⟩
  | scr' hs => exact ⟨_, rfl, SqL.of hs⟩
/-- the cells of a part of a value at hand -/
theorem From.part {b : Bs} {g : Gh} {ts us : List R} {env : Env} {w : Wd} {r rk : R} {k : Nat} {a : Addr} (hk : us[k]? = some rk) (hf : r.f = false) (hz : r.z = rk.z) (hy : r.y = rk.y) (hn : rk.d.nc = false) (m : a ∈ g.F (.tm (ts.length + k))) (hnr : r.d.nc = false) : From b g ts us env w r a := by
  refine .inl ⟨by unfold R.own; rw [hf]; rfl, k, rk, hk, m, fun h => ?_, fun h => ?_⟩
  · unfold R.zz at h ⊢
    rw [hnr, Bool.or_false] at h
    rw [← hz, h]; rfl
  · unfold R.yy at h ⊢
    rw [hnr, Bool.or_false] at h
    rw [← hy, h]; rfl
theorem nc_of_cell {H : Hp} {v : V} {d : D} {F : List Addr} {a : Addr} (h : FRep G H v d F) (m : a ∈ F) : d.nc = false := by
  cases e : d.nc with
  | false => rfl
  | true => rw [h.nc e] at m; cases m
theorem Hand.part {g : Gh} {ts us : List R} {env : Env} {w : Wd} {σ : St} {H : Hp} {Q0 : VK} {Q : L2.VK} (hh : Hand G b g ts us env w σ H Q0 Q) {k : Nat} {rk : R} (hk : us[k]? = some rk) {d : D} {v : V} {F : List Addr}
    (q : Q0 ⟨d, rk.z, rk.y, false⟩ w) (h : FRep G H v d F) (hF : ∀ a ∈ F, a ∈ g.F (.tm (ts.length + k))) : Q v H :=
  hh.done q (Same.refl H) h fun a m => .part hk rfl rfl rfl (nc_of_cell (hh.rep hk) (hF a m)) (hF a m) (nc_of_cell h m)
theorem le_idx (T : CTx G X) (hs : PlainIx e2) (h1 : LE Phi X G b W m1 e1) (h2 : LE Phi X G b W m2 e2) : LE Phi X G b W (.idx m1 m2) (.Subscript e1 e2 pos) := by
  refine PE.imp (pe_ix (IxR.or ix_list ix_tup) h1 h2 hs) fun σ H Q h => ?_
  refine tE_mono (tE_two (P := fun _ x y w2 Q _ => idxop x y.d fun r => Q r w2) (tE_imp h fun env w Q E q => by simp only [lev] at q; exact q)) fun x H1 q => tE_mono q fun y H2 q => ?_
  obtain ⟨g, ts, env, r, r2, w2, Q0, E0, hh, rfl, rfl, q, hx⟩ := q
  have e0 := hh.rep0
  have e1 := hh.rep1
  cases hd2 : r2.d with
  | int k =>
    rw [hd2] at q e1
    simp only [idxop] at q
    cases hd : r.d with
    | lst ds =>
      rw [hd] at q e0
      cases ha : at0 ds k with
      | none => simp only [ha] at q
      | some d =>
        simp only [ha] at q
        obtain ⟨k0, hk⟩ := at0_some ha
        obtain ⟨a, vs, F', h1, h2, h3, h4⟩ := e0.lst_of
        obtain ⟨v, Fd, g1, g2, g3⟩ := h3.get hk
        exact .inl ⟨a, vs, k, v, h1, e1.int_of, SqL.of h2, atI_of k0 g1, hh.part (k := 0) (rk := r) rfl q g2 fun a m => by rw [Nat.add_zero, h4]; exact List.mem_cons_of_mem _ (g3 a m)⟩
    | tup ds =>
      rw [hd] at q e0
      cases ha : at0 ds k with
      | none => simp only [ha] at q
      | some d =>
        simp only [ha] at q
        obtain ⟨k0, hk⟩ := at0_some ha
        obtain ⟨a, vs, h1, h2, h3⟩ := e0.tup_of
        obtain ⟨v, Fd, g1, g2, g3⟩ := h3.get hk
        exact .inr ⟨a, vs, k, v, h1, e1.int_of, by rw [← T.kk]; exact h2, atI_of k0 g1, hh.part (k := 0) (rk := r) rfl q g2 fun a m => by rw [Nat.add_zero]; exact g3 a m⟩
    | scr ns =>
      rw [hd] at q e0
      cases ha : at0 ns k with
      | none => simp only [ha] at q
      | some n =>
        simp only [ha] at q
        obtain ⟨k0, hk⟩ := at0_some ha
        have hv : (ns.map V.int)[k.toNat]? = some (V.int n) := by rw [List.getElem?_map, hk]; rfl
        obtain ⟨a, h1, h2⟩ := e0.scr_of
        exact .inl ⟨a, _, k, _, h1, e1.int_of, by rw [← T.kk]; exact h2, atI_of k0 hv, hh.scal q (.int n)⟩
    | _ => rw [hd] at q; exact q.elim
  | _ => rw [hd2] at q; exact absurd q (by simp [idxop])
end
end LL
end
section
set_option Elab.async false
set_option linter.all false
set_option maxRecDepth 100000
/-! LExp4: slices, fields, arguments, displays. -/
namespace LL
open PySem L2
theorem fdS_inj : ∀ a b : Fd, fdS a = fdS b → a = b := by
  intro a b
  cases a <;> cases b <;> first | (intro _; rfl) | (intro h; exact absurd h (by decide +kernel))
theorem fget_mem {fs : List (Fd × PC)} {f : Fd} {x : PC} (h : fget fs f = some x) : (f, x) ∈ fs := by
  unfold fget at h
  cases e : fs.find? fun z => decide (z.1 = f) with
  | none => rw [e] at h; cases h
  | some z =>
    rw [e] at h
    have h1 := List.find?_some e
    have h2 := List.mem_of_find?_eq_some e
    have h3 : z.1 = f := of_decide_eq_true h1
    have h4 : z.2 = x := Option.some.inj h
    rw [← h3, ← h4]
    exact h2
theorem lookup_fd (v : Fd → V) (f : Fd) : ∀ fs : List (Fd × PC), (fget fs f).isSome = true → (fs.map fun z => (fdS z.1, v z.1)).lookup (fdS f) = some (v f)
  | [], h => by cases h
  | (a, x) :: r, h => by
    rw [List.map_cons, List.lookup_cons]
    by_cases e : a = f
    · subst e
      simp
    · have e' : (fdS f == fdS a) = false := by
        cases q : (fdS f == fdS a) with
        | false => rfl
        | true => exact absurd (fdS_inj _ _ (by simpa using q)).symm e
      simp only [e']
      have h' : (fget r f).isSome = true := by
        unfold fget at h ⊢
        rw [List.find?_cons_of_neg (by simp [e])] at h
        exact h
      exact lookup_fd v f r h'
theorem onFld_some {w : Wd} {d : D} {f : Fd} {P : Nat → Ob → PC → Prop} (h : onFld w d f P) : ∃ p ob pc, d = .obj p ∧ w p = some ob ∧ fget ob.fs f = some pc ∧ P p ob pc := by
  obtain ⟨p, e1, h⟩ := onObj_some h
  obtain ⟨ob, e2, h⟩ := onSome_some h
  obtain ⟨pc, e3, h⟩ := onSome_some h
  exact ⟨p, ob, pc, e1, e2, e3, h⟩
theorem onOb_some {w : Wd} {d : D} {P : Nat → Ob → Prop} (h : onOb w d P) : ∃ p ob, d = .obj p ∧ w p = some ob ∧ P p ob := by
  obtain ⟨p, e1, h⟩ := onObj_some h
  obtain ⟨ob, e2, h⟩ := onSome_some h
  exact ⟨p, ob, e1, e2, h⟩
theorem onSlot_some {env : Env} {i : Nat} {P : PC → Prop} (h : onSlot env i P) : ∃ pc, env[i]? = some (some pc) ∧ P pc := by
  obtain ⟨o, e1, h⟩ := onSome_some h
  obtain ⟨pc, e2, h⟩ := onSome_some h
  exact ⟨pc, by rw [e1, e2], h⟩
theorem plc_fd {env : Env} {ts : List R} {w : Wd} {p : Nat} {f : Fd} {ob : Ob} {pc : PC} (h1 : w p = some ob) (h2 : fget ob.fs f = some pc) : plc env ts w (.fd p f) = some (.pc pc) := by
  simp only [plc, h1, h2]; rfl
theorem plc_sl {env : Env} {ts : List R} {w : Wd} {i : Nat} {pc : PC} (h : env[i]? = some (some pc)) : plc env ts w (.sl i) = some (.pc pc) := by
  simp only [plc, h]
theorem slotInt_some {G : SG} {b : Bs} {g : Gh} {ts : List R} {env : Env} {w : Wd} {σ : St} {H : Hp} (S : Sim G b g ts env w σ H) {i : Nat} {P : Int → Prop} (h : slotInt env i P) : ∃ k, σ[i]? = some (some (.int k)) ∧ P k := by
  obtain ⟨pc, he, h⟩ := onSlot_some h
  obtain ⟨k, hd, h⟩ := onInt_some h
  refine ⟨k, ?_, h⟩
  rw [S.sig i pc he]
  have hr := CRep.toR (S.rep (.sl i) (.pc pc) (plc_sl he))
  rw [hd] at hr
  rw [hr.int_of]
section
variable {Fn : Type} {Phi : Fn → LSp} {X : Cx} {G : SG} {b : Bs} {W : WX}
variable {e e1 e2 e3 : Expr} {m m1 m2 m3 : ME Fn} {pos p1 p2 : Pos}
theorem FReps.tail0 {G : SG} {H : Hp} {vs : List V} {ds : List D} {F : List Addr} (h : FReps G H vs ds F) (e : F = []) : FReps G H (vs.drop 1) (ds.drop 1) [] := by
  cases h with
  | nil => exact .nil
  | cons r t =>
    obtain ⟨z1, z2⟩ := List.append_eq_nil_iff.mp e
    subst z2
    exact t
theorem map_take {G : SG} {H : Hp} : ∀ (ns : List Int), FReps G H (ns.map V.int) (ns.map D.int) []
  | [] => .nil
  | n :: ns => FReps.cons (F := []) (F' := []) (.int n) (map_take ns)
theorem le_upTo {n j : Nat} (T : CTx G X) (h1 : LE Phi X G b W m1 e1) : LE Phi X G b W (.upTo m1 n) (.Subscript e1 (.Slice none (some (.Constant (.int (n : Int)) j p1)) none p2) pos) := by
  refine PE.imp (pe_slice sl_list h1 po_none (po_some pe_int)) fun σ H Q h => ?_
  refine tE_mono (tE_one (P := fun _ x w1 Q _ => x.d.onScr fun ns => Q (fr (.lst ((ns.take n).map D.int))) w1) (tE_imp h fun env w Q E q => by simp only [lev] at q; exact q)) fun x H1 q => ?_
  obtain ⟨g, ts, env, r, w2, Q0, E0, hh, rfl, q, hx⟩ := q
  obtain ⟨ns, hd, q⟩ := onScr_some q
  have e0 := hh.rep0
  rw [hd] at e0
  obtain ⟨a, ha, hs⟩ := e0.scr_of
  refine ⟨_, rfl, a, _, ha, by rw [← T.kk]; exact hs, fun p hp => ?_⟩
  have hc : cutV (ns.map V.int) none (some (n : Int)) = (ns.take n).map V.int := by
    unfold cutV
    rw [HT.sIx_none, HT.sIx_nat, List.drop_zero, Nat.sub_zero, List.map_take]
    rw [List.take_eq_take_iff]
    simp
  rw [hc]
  exact hh.new q hp (lst_rep hp (map_take _))
theorem le_from1 {j : Nat} (T : CTx G X) (h1 : LE Phi X G b W m1 e1) : LE Phi X G b W (.from1 m1) (.Subscript e1 (.Slice (some (.Constant (.int 1) j p1)) none none p2) pos) := by
  refine PE.imp (pe_slice sl_tupA h1 (po_some pe_int) po_none) fun σ H Q h => ?_
  refine tE_mono (tE_one (P := fun _ x w1 Q _ => x.d.onTup fun ds => D.ncs ds = true ∧ Q (sc (.tup (ds.drop 1))) w1) (tE_imp h fun env w Q E q => by simp only [lev] at q; exact q)) fun x H1 q => ?_
  obtain ⟨g, ts, env, r, w2, Q0, E0, hh, rfl, q, hx⟩ := q
  obtain ⟨ds, hd, hn, q⟩ := onTup_some q
  have e0 := hh.rep0
  rw [hd] at e0
  obtain ⟨a, vs, ha, hs, hr⟩ := e0.tup_of
  have hr := ncs_nil hr hn
  have hl := hr.length
  have drop := hr.tail0 rfl
  refine ⟨_, rfl, a, vs, ha, by rw [← T.kk]; exact hs, fun z => ?_, fun z p hp => ?_⟩
  · have hz : vs = [] := by
      have z1 := z.1
      have : HT.sIx vs.length 0 (some ((1 : Nat) : Int)) = min 1 vs.length := HT.sIx_nat _ _ _
      have z1' : HT.sIx vs.length 0 (some ((1 : Nat) : Int)) = 0 := z1
      rw [this] at z1'
      exact List.eq_nil_of_length_eq_zero (by omega)
    subst hz
    have hz2 : ds = [] := List.eq_nil_of_length_eq_zero (by simpa using hl.symm)
    subst hz2
    have := hh.scal q (.tup hs .nil)
    exact this
  · have hc : cutV vs (some (1 : Int)) none = vs.drop 1 := by
      unfold cutV
      have : HT.sIx vs.length 0 (some ((1 : Nat) : Int)) = min 1 vs.length := HT.sIx_nat _ _ _
      have t' : HT.sIx vs.length 0 (some (1 : Int)) = min 1 vs.length := this
      rw [HT.sIx_none, t']
      rcases Nat.lt_or_ge 0 vs.length with h | h
      · rw [Nat.min_eq_left (by omega)]
        rw [List.take_of_length_le (by simp)]
      · have : vs = [] := List.eq_nil_of_length_eq_zero (by omega)
        subst this
        rfl
    rw [hc]
    exact hh.done q (same_upd hp) (.tup (SqT.of upd_same) (drop.same (same_upd hp))) fun _ m => nomatch m

/-! ### fields -/
theorem tFld_of (T : CTx G X) {g : Gh} {ts : List R} {env : Env} {w : Wd} {σ : St} {H : Hp} (S : Sim G b g ts env w σ H) {p : Nat} {ob : Ob} {f : Fd} {pc : PC} (h1 : w p = some ob) (h2 : fget ob.fs f = some pc) {Q : L2.VK} (q : Q (g.v (.fd p f)) H) :
    ∃ a C dx fs v, V.ref p = V.ref a ∧ H a = some (.ins C dx fs) ∧ Cls X.K C ∧ NoAttr X.K C (fdS f) ∧ fs.lookup (fdS f) = some v ∧ Q v H := by
  obtain ⟨dx, hp, hn, hc⟩ := S.ins p ob h1
  exact ⟨p, _, dx, _, _, rfl, hp, T.cls _ hc, T.noa _ f hc, lookup_fd (fun f => g.v (.fd p f)) f ob.fs (by rw [h2]; rfl), q⟩
theorem le_attr {f : Fd} (T : CTx G X) (hb : attributeBase e1 (fdS f) X.env (eval e1 X.env) = eval e1 X.env) (h1 : LE Phi X G b W m1 e1) : LE Phi X G b W (.attr m1 f) (.Attribute e1 (fdS f) pos) := by
  refine PE.imp (pe_fld h1 hb) fun σ H Q h => ?_
  refine tE_mono (tE_one (P := fun _ x w1 Q _ => onFld w1 x.d f fun _ _ pc => pc.onVal fun d => Q ⟨d, true, false, false⟩ w1) (tE_imp h fun env w Q E q => by simp only [lev] at q; exact q)) fun x H1 q => ?_
  obtain ⟨g, ts, env, r, w2, Q0, E0, hh, rfl, q, hx⟩ := q
  obtain ⟨p, ob, pc, hd, hw, hf, q⟩ := onFld_some q
  have e0 := hh.rep0
  rw [hd] at e0
  rw [e0.obj_of]
  refine tFld_of T hh.sim hw hf ?_
  cases pc with
  | val d y =>
    have hr : FRep G H1 (g.v (.fd p f)) d (g.F (.fd p f)) := hh.sim.rep (.fd p f) (.pc (.val d y)) (plc_fd hw hf)
    refine hh.done (r := ⟨d, true, false, false⟩) q (Same.refl _) hr fun a m => .inr (.inr ⟨rfl, .fd p f, .pc (.val d y), (by intro k z; cases z), plc_fd hw hf, m, (by intro z; cases z), ?_⟩)
    intro z
    have hn : d.nc = true := z
    rw [hr.nc hn] at m
    cases m
  | _ => exact q.elim
theorem le_attrIx {f : Fd} {i : Nat} (T : CTx G X) (hb : attributeBase e1 (fdS f) X.env (eval e1 X.env) = eval e1 X.env) (hs : PlainIx e2) (h1 : LE Phi X G b W m1 e1) (h2 : PE X e2 (tVar i)) :
    LE Phi X G b W (.attrIx m1 f i) (.Subscript (.Attribute e1 (fdS f) p1) e2 pos) := by
  refine PE.imp (pe_ix ix_list (pe_fld h1 hb) h2 hs) fun σ H Q h => ?_
  unfold tOp tFld
  refine tE_mono (tE_one (P := fun env x w1 Q _ => onFld w1 x.d f fun _ _ pc => pc.onLst fun ds => slotInt env i fun k => onSome (at0 ds k) fun d => Q (sc d) w1) (tE_imp h fun env w Q E q => by simp only [lev] at q; exact q)) fun x H1 q => ?_
  obtain ⟨g, ts, env, r, w2, Q0, E0, hh, rfl, q, hx⟩ := q
  obtain ⟨p, ob, pc, hd, hw, hf, q⟩ := onFld_some q
  have e0 := hh.rep0
  rw [hd] at e0
  rw [e0.obj_of]
  refine tFld_of (Q := fun x H1 => tVar i σ H1 fun y H2 => rIxL X.K x y H2 Q) T hh.sim hw hf ?_
  cases pc with
  | lst ds =>
    obtain ⟨a, vs, ha, _, hl, hr⟩ := hh.sim.rep (.fd p f) (.pc (.lst ds)) (plc_fd hw hf)
    obtain ⟨k, hi, q⟩ := slotInt_some hh.sim q
    obtain ⟨d, hat, q⟩ := onSome_some q
    obtain ⟨k0, hk⟩ := at0_some hat
    obtain ⟨v, Fd, g1, g2, g3⟩ := hr.get hk
    have : Fd = [] := List.eq_nil_iff_forall_not_mem.mpr fun a m => nomatch g3 a m
    subst this
    exact ⟨.int k, hi, a, vs, k, v, ha, rfl, SqL.of hl, atI_of k0 g1, hh.scal q g2⟩
  | _ => exact q.elim
theorem le_attrIx2 {f : Fd} {i j : Nat} (T : CTx G X) (hb : attributeBase e1 (fdS f) X.env (eval e1 X.env) = eval e1 X.env) (hs : PlainIx e2) (hs3 : PlainIx e3) (h1 : LE Phi X G b W m1 e1) (h2 : PE X e2 (tVar i)) (h3 : PE X e3 (tVar j)) :
    LE Phi X G b W (.attrIx2 m1 f i j) (.Subscript (.Subscript (.Attribute e1 (fdS f) p1) e2 p2) e3 pos) := by
  refine PE.imp (pe_ix ix_list (pe_ix ix_list (pe_fld h1 hb) h2 hs) h3 hs3) fun σ H Q h => ?_
  unfold tOp tFld
  refine tE_mono (tE_one (P := fun env x w1 Q _ => onFld w1 x.d f fun _ _ pc => pc.onMat fun rows => slotInt env i fun k => onSome (at0 rows k) fun ds => slotInt env j fun l => onSome (at0 ds l) fun d => Q (sc d) w1) (tE_imp h fun env w Q E q => by simp only [lev] at q; exact q)) fun x H1 q => ?_
  obtain ⟨g, ts, env, r, w2, Q0, E0, hh, rfl, q, hx⟩ := q
  obtain ⟨p, ob, pc, hd, hw, hf, q⟩ := onFld_some q
  have e0 := hh.rep0
  rw [hd] at e0
  rw [e0.obj_of]
  refine tFld_of (Q := fun x H1 => tVar i σ H1 fun y H2 => rIxL X.K x y H2 fun x H1 => tVar j σ H1 fun y H2 => rIxL X.K x y H2 Q) T hh.sim hw hf ?_
  cases pc with
  | mat rows =>
    obtain ⟨a, cs, ha, _, _, hl, hlen, hr⟩ := hh.sim.rep (.fd p f) (.pc (.mat rows)) (plc_fd hw hf)
    obtain ⟨k, hi, q⟩ := slotInt_some hh.sim q
    obtain ⟨ds, hat, q⟩ := onSome_some q
    obtain ⟨l, hj, q⟩ := slotInt_some hh.sim q
    obtain ⟨d, hat2, q⟩ := onSome_some q
    obtain ⟨k0, hk⟩ := at0_some hat
    obtain ⟨l0, hl0⟩ := at0_some hat2
    have hkl : k.toNat < cs.length := by rw [hlen]; exact (List.getElem?_eq_some_iff.mp hk).1
    have hc := List.getElem?_eq_getElem hkl
    obtain ⟨vs, h4, h5⟩ := hr _ _ _ hc hk
    obtain ⟨v, Fd, g1, g2, g3⟩ := h5.get hl0
    have : Fd = [] := List.eq_nil_iff_forall_not_mem.mpr fun a m => nomatch g3 a m
    subst this
    exact ⟨.int k, hi, a, _, k, .ref cs[k.toNat], ha, rfl, SqL.of hl, atI_of k0 (by rw [List.getElem?_map, hc]; rfl), .int l, hj, cs[k.toNat], vs, l, v, rfl, rfl, SqL.of h4, atI_of l0 g1, hh.scal q g2⟩
  | _ => exact q.elim
end
end LL
end
section
set_option Elab.async false
set_option linter.all false
set_option maxRecDepth 100000
/-! LExp5: what the syntax must show; arguments, displays, dicts. -/
namespace LL
open PySem L2
/-- an expression of a plain form -/
def simple : Expr → Bool
  | .Starred _ _ => false
  | .Set _ _ _ => false
  | .Slice _ _ _ _ => false
  | .Call (.Name x _) [] [] _ => !(x == ("super" : Str))
  | _ => true
theorem simple_star {e : Expr} (h : simple e = true) (es : List Expr) (env : PySem.Env) : starEach (e :: es) env = (false, eval e env) :: starEach es env := by
  cases e <;> first | rfl | cases h
theorem simple_ix {e : Expr} (h : simple e = true) : PlainIx e := by
  intro o i
  cases e <;> first | rfl | cases h
theorem simple_in {e : Expr} (h : simple e = true) (op : CmpOp) : behindInMarks op e = false := by
  cases e <;> first | rfl | cases h
theorem simple_fold {e : Expr} (h : simple e = true) (env : PySem.Env) (x : Value) : foldedSetIterable e env x = pure x := by
  cases e <;> first | rfl | cases h
theorem simple_base {e : Expr} (h : simple e = true) (f : Str) (env : PySem.Env) : attributeBase e f env (eval e env) = eval e env := by
  cases e with
  | Call fe args kws pos =>
    cases fe with
    | Name id p =>
      cases args with
      | nil =>
        cases kws with
        | nil =>
          have h' : (!(id == ("super" : Str))) = true := h
          have hb : (id == ("super" : Str)) = false := by
            cases q : (id == ("super" : Str)) with
            | false => rfl
            | true => rw [q] at h'; cases h'
          have hn : (id != ("super" : Str)) = true := by
            show (!(id == ("super" : Str))) = true
            rw [hb]; rfl
          simp only [attributeBase]
          rw [hn]
          simp
        | cons k ks => rfl
      | cons a as => rfl
    | _ => rfl
  | _ => rfl
def simples (es : List Expr) : Bool := es.all simple
theorem simples_star : ∀ {es : List Expr} (env : PySem.Env), simples es = true → ∀ x ∈ starEach es env, x.1 = false
  | [], _, _, x, m => nomatch m
  | e :: es, env, h, x, m => by
    simp only [simples, List.all_cons, Bool.and_eq_true] at h
    rw [simple_star h.1] at m
    rcases List.mem_cons.mp m with e | m
    · rw [e]
    · exact simples_star env h.2 x m
theorem simples_any {es : List Expr} (h : simples es = true) (env : PySem.Env) (pos : Pos) : (backTo pos (starEach es env)).any (·.1) = false := by
  rw [List.any_eq_false]
  intro x m
  obtain ⟨y, my, ey⟩ := List.mem_map.mp m
  have := simples_star env h y my
  rw [← ey]
  simp [this]
theorem simples_few {es : List Expr} (h : simples es = true) (hl : es.length < 20) (env : PySem.Env) (pos : Pos) : ((backTo pos (starEach es env)).all (fun x => !x.1) && (backToKw pos (keywordEach [] env)).all (fun x => x.1.isSome)
    && decide (es.length + ([] : List Keyword).length + (if ([] : List Keyword).isEmpty then 0 else 1) < 30)) = true := by
  have h1 : (backTo pos (starEach es env)).all (fun x => !x.1) = true := by
    rw [List.all_eq_true]
    intro x m
    obtain ⟨y, my, ey⟩ := List.mem_map.mp m
    have := simples_star env h y my
    rw [← ey]
    simp [this]
  rw [h1]
  have h2 : (backToKw pos (keywordEach [] env)).all (fun x => x.1.isSome) = true := rfl
  rw [h2]
  simp
  omega
theorem m2_of {X : Cx} {o e f : Expr} {m : Str} {apos cpos : Pos} (ho : simple o = true) (he : simple e = true) (hf : simple f = true) (hl : (apos.endLine == cpos.line) = true) : M2 X o m apos e f cpos where
  base := simple_base ho _ _
  few := simples_few (es := [e, f]) (by simp [simples, he, hf]) (by simp) _ _
  line := hl
  trees := by rw [simple_star he, simple_star hf]; rfl
theorem small_line {n : Nat} (h : n ≤ 1000) : n ≤ sizeLine := by rw [sizeLine_eq]; omega
section
variable {Fn : Type} {Phi : Fn → LSp} {X : Cx} {G : SG} {b : Bs} {W : WX}
variable {e e1 e2 e3 : Expr} {m m1 m2 m3 : ME Fn} {pos p1 p2 apos cpos : Pos}
theorem dic_get {G : SG} {g : Gh} {ts us : List R} {env : Env} {w : Wd} {σ : St} {H H' : Hp} {Q0 : VK} {Q : L2.VK} (hh : Hand G b g ts us env w σ H Q0 Q) {a : Addr} {kvs : List (Key × V)} {ks : List (Int × D)} (s : Same H H') (ha : H' a = some (.dK kvs)) (hr : DReps G H' kvs ks) (k : Int) {v : V} {d : D} (hv : FRep G H' v d [])
    (q : Q0 (sc ((dget ks k).getD d)) w) : ∃ o, DGet H' a (.int k) o ∧ Q (o.getD v) H' := by
  refine ⟨valV kvs (Sum.inl k), DGet.k (k := Sum.inl k) ha, ?_⟩
  rcases hr.get k with ⟨z1, z2⟩ | ⟨d', v', z1, z2, z3⟩
  · rw [z2]
    rw [z1] at q
    exact hh.done q s hv fun _ m => nomatch m
  · rw [z2]
    rw [z1] at q
    exact hh.done q s z3 fun _ m => nomatch m
theorem le_attrGet {f : Fd} {i : Nat} {t : Tg} {j k0 : Nat} {p3 : Pos} (T : CTx G X) (hs1 : simple e1 = true) (hs2 : simple e2 = true) (hl : (apos.endLine == cpos.line) = true) (h1 : LE Phi X G b W m1 e1) (h2 : PE X e2 (tVar i)) :
    LE Phi X G b W (.attrGet m1 f i t) (.Call (.Attribute (.Attribute e1 (fdS f) p1) "get" apos) [e2, .Tuple [.Constant (.str (tgS t)) j p2] k0 p3] [] cpos) := by
  refine PE.imp (pe_dget2 (by have := T.un; omega) (pe_fld h1 (simple_base hs1 _ _)) h2 (pe_tup (pa_cons pe_str pa_nil)) (m2_of rfl hs2 rfl hl)) fun σ H Q h => ?_
  unfold tDGet2 tFld
  refine tE_mono (tE_one (P := fun env x w1 Q _ => onFld w1 x.d f fun _ _ pc => pc.onDic fun ks => slotInt env i fun k => Q (sc ((dget ks k).getD (.tup [.tg t]))) w1) (tE_imp h fun env w Q E q => by simp only [lev] at q; exact q)) fun x H1 q => ?_
  obtain ⟨g, ts, env, r, w2, Q0, E0, hh, rfl, q, hx⟩ := q
  obtain ⟨p, ob, pc, hd, hw, hf, q⟩ := onFld_some q
  have e0 := hh.rep0
  rw [hd] at e0
  rw [e0.obj_of]
  refine tFld_of (Q := fun x H1 => ∃ a, x = .ref a ∧ IsD H1 a ∧ tVar i σ H1 fun y H2 => tTup (tCons (tC (.str (tgS t))) tNil) σ H2 fun z H3 => ∃ o, DGet H3 a y o ∧ Q (o.getD z) H3) T hh.sim hw hf ?_
  cases pc with
  | dic ks =>
    obtain ⟨a, kvs, ha, _, hl, hr⟩ := hh.sim.rep (.fd p f) (.pc (.dic ks)) (plc_fd hw hf)
    obtain ⟨k, hi, q⟩ := slotInt_some hh.sim q
    refine ⟨a, ha, .inl ⟨kvs, .inl hl⟩, .int k, hi, ?_⟩
    refine ⟨small_line (by show 1 ≤ 1000; decide), fun q0 hq0 => ?_⟩
    have s := same_upd (o := .tup [V.str (tgS t)]) hq0
    exact dic_get hh s (s _ _ hl) (hr.stay (Evo.same s)) k (v := .ref q0) (d := .tup [.tg t]) (.tup (SqT.of upd_same) (FReps.one (.tg t))) q
  | _ => exact q.elim
theorem le_dgetD (T : CTx G X) (hs1 : simple e1 = true) (hs2 : simple e2 = true) (hs3 : simple e3 = true) (hl : (apos.endLine == cpos.line) = true) (h1 : LE Phi X G b W m1 e1) (h2 : LE Phi X G b W m2 e2) (h3 : LE Phi X G b W m3 e3) :
    LE Phi X G b W (.dgetD m1 m2 m3) (.Call (.Attribute e1 "get" apos) [e2, e3] [] cpos) := by
  refine PE.imp (pe_dget2 (by have := T.un; omega) h1 h2 h3 (m2_of hs1 hs2 hs3 hl)) fun σ H Q h => ?_
  unfold tDGet2
  refine tE_mono (tE_one (P := fun env x w1 Q E => x.d.onDic fun ks => lev Phi m2 env w1 (fun y w2 => y.d.onInt fun k => lev Phi m3 env w2 (fun z w3 => z.d.nc = true ∧ Q (sc ((dget ks k).getD z.d)) w3) E) E) (tE_imp h fun env w Q E q => by simp only [lev] at q; exact q)) fun x H1 q => ?_
  obtain ⟨g, ts, env, r, w1, Q0, E0, hh, rfl, q, hx⟩ := q
  obtain ⟨ks, hd, q⟩ := onDic_some q
  have e0 := hh.rep0
  rw [hd] at e0
  obtain ⟨a, kvs, ha, hl, hr, _⟩ := e0.dic_of
  refine ⟨a, ha, .inl ⟨kvs, .inl hl⟩, ?_⟩
  refine ⟨g, ts ++ [r], env, w1, _, E0, hh.sim, q, fun r2 w2 g2 H2 q2 S2 k2 => ?_, hx.app⟩
  obtain ⟨k, hd2, q2⟩ := onInt_some q2
  refine ⟨g2, (ts ++ [r]) ++ [r2], env, w2, _, E0, S2, q2, fun r3 w3 g3 H3 q3 S3 k3 => ?_, hx.app.app⟩
  have hh3 : Hand G b g3 ts ([r] ++ [r2] ++ [r3]) env w3 σ H3 Q0 Q := ⟨by rw [List.append_assoc, List.append_assoc] at S3; rw [List.append_assoc]; exact S3, fun r4 w4 g4 H4 q4 S4 k4 => hh.fin r4 w4 g4 H4 q4 S4 fun j hj => ((k4 j hj).trans (k3 j (by simp; omega))).trans (k2 j (by simp; omega))⟩
  have f0 := hh3.rep (k := 0) (r := r) rfl
  have f1 := hh3.rep (k := 1) (r := r2) rfl
  have f2 := hh3.rep (k := 2) (r := r3) rfl
  rw [hd] at f0
  rw [hd2] at f1
  have v0 : g3.v (.tm ts.length) = V.ref a := ((k3 ts.length (by simp)).trans (k2 ts.length (by simp))).trans ha
  have v1 : g3.v (.tm (ts.length + 1)) = g2.v (.tm (ts ++ [r]).length) := by
    have := k3 (ts.length + 1) (by simp)
    simpa using this
  have v2 : g3.v (.tm (ts.length + 2)) = g3.v (.tm (ts ++ [r] ++ [r2]).length) := by simp
  rw [v1] at f1
  rw [v2] at f2
  rw [f1.int_of]
  rw [Nat.add_zero, v0] at f0
  obtain ⟨a', kvs', ha', hl', hr', _⟩ := f0.dic_of
  have := V.ref.inj ha'
  subst this
  have hF := f2.nc q3.1
  rw [hF] at f2
  exact dic_get hh3 (Same.refl _) hl' hr' k f2 q3.2

/-! ### arguments -/
def hands (g : Gh) (n : Nat) : Nat → List V
  | 0 => []
  | k + 1 => g.v (.tm n) :: hands g (n + 1) k
def tA (G : SG) (b : Bs) (W : WX) (τ : Env → Wd → (List R → Wd → Prop) → XKd → Prop) : TA := fun σ H Q => ∃ g ts env w Q0 E0,
  Sim G b g ts env w σ H ∧ τ env w Q0 E0 ∧ (∀ rs w' g' H', Q0 rs w' → Sim G b g' (ts ++ rs) env w' σ H' → Keeps g g' ts.length → Q (hands g' ts.length rs.length) H') ∧ XOk G b W ts env σ E0
abbrev LA (Phi : Fn → LSp) (X : Cx) (G : SG) (b : Bs) (W : WX) (ms : MEs Fn) (es : List Expr) : Prop := PA X es (tA G b W (levs Phi ms))
theorem PA.imp {X : Cx} {e : List Expr} {t t' : TA} (h : PA X e t) (i : ∀ σ H Q, t' σ H Q → t σ H Q) : PA X e t' := ⟨fun pos pins s σ H Q I q => h.run pos pins s σ H Q I (i σ H Q q)⟩
theorem la_nil : LA Phi X G b W .nil [] := PA.imp pa_nil fun σ H Q h => by
  obtain ⟨g, ts, env, w, Q0, E0, S, q, hq, hx⟩ := h
  simp only [levs] at q
  exact hq [] w g H q (by rw [List.append_nil]; exact S) fun _ _ => rfl
theorem hands_keep {g g' : Gh} : ∀ (k n : Nat), (∀ j, n ≤ j → j < n + k → g'.v (.tm j) = g.v (.tm j)) → hands g' n k = hands g n k
  | 0, _, _ => rfl
  | k + 1, n, h => by
    show _ :: _ = _ :: _
    rw [h n (Nat.le_refl _) (by omega), hands_keep k (n + 1) fun j h1 h2 => h j (by omega) (by omega)]
theorem la_cons {ms : MEs Fn} {es : List Expr} (hs : simple e1 = true) (h1 : LE Phi X G b W m1 e1) (h2 : LA Phi X G b W ms es) : LA Phi X G b W (.cons m1 ms) (e1 :: es) := by
  refine PA.imp (pa_cons h1 h2 (simple_star hs _ _)) fun σ H Q h => ?_
  obtain ⟨g, ts, env, w, Q0, E0, S, q, hq, hx⟩ := h
  simp only [levs] at q
  refine ⟨g, ts, env, w, _, E0, S, q, fun r w1 g1 H1 q1 S1 k1 => ?_, hx⟩
  refine ⟨g1, ts ++ [r], env, w1, _, E0, S1, q1, fun rs w2 g2 H2 q2 S2 k2 => ?_, hx.app⟩
  rw [List.append_assoc] at S2
  have := hq (r :: rs) w2 g2 H2 q2 S2 fun j hj => (k2 j (by simp; omega)).trans (k1 j hj)
  have e : hands g2 ts.length (r :: rs).length = g1.v (.tm ts.length) :: hands g2 (ts ++ [r]).length rs.length := by
    show g2.v (.tm ts.length) :: hands g2 (ts.length + 1) rs.length = _
    rw [k2 ts.length (by simp)]
    simp
  rw [e] at this
  exact this
theorem hands_rep {g : Gh} {env : Env} {w : Wd} {σ : St} {H : Hp} : ∀ {us ts : List R}, Sim G b g (ts ++ us) env w σ H →
    ∃ F, FReps G H (hands g ts.length us.length) (us.map (·.d)) F ∧ ∀ a ∈ F, ∃ k rk, us[k]? = some rk ∧ a ∈ g.F (.tm (ts.length + k)) ∧ rk.d.nc = false
  | [], _, _ => ⟨[], .nil, fun _ m => nomatch m⟩
  | r :: us, ts, S => by
    have S' : Sim G b g ((ts ++ [r]) ++ us) env w σ H := by rw [List.append_assoc]; exact S
    obtain ⟨F, h1, h2⟩ := hands_rep S'
    have hr : FRep G H (g.v (.tm ts.length)) r.d (g.F (.tm ts.length)) := by
      refine S.rep (.tm ts.length) (.rr r) ?_
      show (ts ++ r :: us)[ts.length]?.map PV.rr = some (.rr r)
      rw [List.getElem?_append_right (Nat.le_refl _), Nat.sub_self]; rfl
    have hl : (ts ++ [r]).length = ts.length + 1 := by simp
    rw [hl] at h1 h2
    refine ⟨_, .cons hr h1, fun a m => ?_⟩
    rcases List.mem_append.mp m with m | m
    · exact ⟨0, r, rfl, m, nc_of_cell hr m⟩
    · obtain ⟨k, rk, e1, e2, e3⟩ := h2 a m
      exact ⟨k + 1, rk, by simpa using e1, by rw [show ts.length + (k + 1) = ts.length + 1 + k by omega]; exact e2, e3⟩
theorem tA_all {P : Env → List R → Wd → VK → XKd → Prop} {ms : MEs Fn} {σ : St} {H : Hp} {Q : L2.VK} (h : tE G b W (fun env w Q E => levs Phi ms env w (fun rs w1 => P env rs w1 Q E) E) σ H Q) :
    tA G b W (levs Phi ms) σ H (fun xs H1 => ∃ g ts env rs w1 Q0 E0, Hand G b g ts rs env w1 σ H1 Q0 Q ∧ xs = hands g ts.length rs.length ∧ P env rs w1 Q0 E0 ∧ XOk G b W ts env σ E0) := by
  obtain ⟨g, ts, env, w, Q0, E0, S, ht, hq, hx⟩ := h
  refine ⟨g, ts, env, w, _, E0, S, ht, fun rs w' g' H' p S' k => ?_, hx⟩
  exact ⟨g', ts, env, rs, w', Q0, E0, ⟨S', fun r2 w2 g2 H2 q2 S2 k2 => hq r2 w2 g2 H2 q2 S2 fun j hj => (k2 j hj).trans (k j hj)⟩, rfl, p, hx⟩
theorem tA_mono {τ : Env → Wd → (List R → Wd → Prop) → XKd → Prop} {σ : St} {H : Hp} {Q Q' : List V → Hp → Prop} (h : tA G b W τ σ H Q) (i : ∀ v H, Q v H → Q' v H) : tA G b W τ σ H Q' := by
  obtain ⟨g, ts, env, w, Q0, E0, S, ht, hq, hx⟩ := h
  exact ⟨g, ts, env, w, Q0, E0, S, ht, fun r w' g' H' q S' k => i _ _ (hq r w' g' H' q S' k), hx⟩
theorem hands_length (g : Gh) : ∀ (k n : Nat), (hands g n k).length = k
  | 0, _ => rfl
  | k + 1, n => by simp [hands, hands_length g k (n + 1)]
theorem all_get {p : R → Bool} {us : List R} (h : us.all p = true) {k : Nat} {rk : R} (e : us[k]? = some rk) : p rk = true := List.all_eq_true.mp h rk (List.mem_of_getElem? e)
theorem le_tup {ms : MEs Fn} {es : List Expr} {j : Nat} (h : LA Phi X G b W ms es) : LE Phi X G b W (.tup ms) (.Tuple es j pos) := by
  refine PE.imp (pe_tup h) fun σ H Q h => ?_
  refine tA_mono (tA_all (P := fun _ rs w1 Q _ => rs.length ≤ 1000 ∧ Q ⟨.tup (rs.map (·.d)), rs.all R.zz, rs.all R.yy, false⟩ w1) (tE_imp h fun env w Q E q => by simp only [lev] at q; exact q)) fun xs H1 q => ?_
  obtain ⟨g, ts, env, rs, w2, Q0, E0, hh, rfl, ⟨hl, q⟩, hx⟩ := q
  refine ⟨by rw [hands_length]; exact small_line hl, fun p hp => ?_⟩
  obtain ⟨F, h1, h2⟩ := hands_rep hh.sim
  have s := same_upd (o := .tup (hands g ts.length rs.length)) hp
  refine hh.done q s (.tup (SqT.of upd_same) (h1.same s)) fun a m => ?_
  obtain ⟨k, rk, e1, e2, e3⟩ := h2 a m
  have hn : D.nc (.tup (rs.map (·.d))) = false := by
    cases e : D.nc (.tup (rs.map (·.d))) with
    | false => rfl
    | true =>
      have := h1.nc (by simpa [D.nc] using e)
      rw [this] at m; cases m
  refine .inl ⟨rfl, k, rk, e1, e2, fun z => ?_, fun z => ?_⟩
  · simp only [R.zz, hn, Bool.or_false] at z
    exact all_get z e1
  · simp only [R.yy, hn, Bool.or_false] at z
    exact all_get z e1
theorem le_lst {ms : MEs Fn} {es : List Expr} (h : LA Phi X G b W ms es) : LE Phi X G b W (.lst ms) (.List es pos) := by
  refine PE.imp (pe_lst h) fun σ H Q h => ?_
  refine tA_mono (tA_all (P := fun _ rs w1 Q _ => rs.length ≤ 1000 ∧ Q ⟨.lst (rs.map (·.d)), rs.all R.zz, rs.all R.yy, true⟩ w1) (tE_imp h fun env w Q E q => by simp only [lev] at q; exact q)) fun xs H1 q => ?_
  obtain ⟨g, ts, env, rs, w2, Q0, E0, hh, rfl, ⟨hl, q⟩, hx⟩ := q
  refine ⟨by rw [hands_length]; exact small_line hl, fun p hp => ?_⟩
  obtain ⟨F, h1, h2⟩ := hands_rep hh.sim
  have s := same_upd (o := .lst (hands g ts.length rs.length)) hp
  refine hh.done q s (.lst upd_same (h1.same s)) fun a m => ?_
  rcases List.mem_cons.mp m with e | m
  · rw [e]; exact .inr (.inl (hh.sim.fresh hp))
  obtain ⟨k, rk, e1, e2, e3⟩ := h2 a m
  have hn : D.ncs (rs.map (·.d)) = false := by
    cases e : D.ncs (rs.map (·.d)) with
    | false => rfl
    | true =>
      have := h1.nc e
      rw [this] at m; cases m
  refine .inl ⟨?_, k, rk, e1, e2, fun z => ?_, fun z => ?_⟩
  · simp only [R.own, hn, Bool.and_false]
  · simp only [R.zz, D.nc, Bool.or_false] at z
    exact all_get z e1
  · simp only [R.yy, D.nc, Bool.or_false] at z
    exact all_get z e1
end
end LL
end
section
set_option Elab.async false
set_option linter.all false
set_option maxRecDepth 100000
/-! LExp6: built-in functions. -/
namespace LL
open PySem L2
theorem intsOf_rep {G : SG} {H : Hp} : ∀ {ds : List D} {vs : List V} {F : List Addr} {ns : List Int}, FReps G H vs ds F → intsOf ds = some ns → vs = ns.map V.int ∧ F = []
  | [], _, _, _, .nil, e => by cases e; exact ⟨rfl, rfl⟩
  | d :: ds, _, _, ns, .cons r t, e => by
    cases d with
    | int i =>
      simp only [intsOf] at e
      cases h : intsOf ds with
      | none => rw [h] at e; cases e
      | some ms =>
        rw [h] at e
        have e' := Option.some.inj e
        obtain ⟨h1, h2⟩ := intsOf_rep t h
        subst e'
        rw [h1, h2, r.int_of]
        have := r.nc rfl
        rw [this]
        exact ⟨rfl, rfl⟩
    | _ => cases e
theorem insI_perm (x : Int) : ∀ ys : List Int, (insI x ys).Perm (x :: ys)
  | [] => .refl _
  | y :: ys => by
    unfold insI
    by_cases h : x ≤ y
    · rw [if_pos h]
    · rw [if_neg h]
      exact ((insI_perm x ys).cons y).trans (.swap x y ys)
theorem insI_sorted (x : Int) : ∀ ys : List Int, ys.Pairwise (· ≤ ·) → (insI x ys).Pairwise (· ≤ ·)
  | [], _ => by simp [insI]
  | y :: ys, h => by
    unfold insI
    by_cases c : x ≤ y
    · rw [if_pos c]
      refine List.pairwise_cons.mpr ⟨fun z m => ?_, h⟩
      rcases List.mem_cons.mp m with e | m
      · rw [e]; exact c
      · exact Int.le_trans c ((List.pairwise_cons.mp h).1 z m)
    · rw [if_neg c]
      refine List.pairwise_cons.mpr ⟨fun z m => ?_, insI_sorted x ys (List.pairwise_cons.mp h).2⟩
      rcases List.mem_cons.mp ((insI_perm x ys).mem_iff.mp m) with e | m
      · rw [e]; omega
      · exact (List.pairwise_cons.mp h).1 z m
theorem sortI_perm : ∀ xs : List Int, (sortI xs).Perm xs
  | [] => .refl _
  | x :: xs => (insI_perm x (sortI xs)).trans ((sortI_perm xs).cons x)
theorem sortI_sorted : ∀ xs : List Int, (sortI xs).Pairwise (· ≤ ·)
  | [] => .nil
  | x :: xs => insI_sorted x _ (sortI_sorted xs)
theorem sortI_eq {xs ys : List Int} (h : ys.Perm xs) (s : ys.Pairwise (· ≤ ·)) : ys = sortI xs :=
  (h.trans (sortI_perm xs).symm).eq_of_pairwise (fun x y _ _ h1 h2 => Int.le_antisymm h1 h2) s (sortI_sorted xs)
theorem minI_is : ∀ (ns : List Int) (x : Int), minI x ns ∈ x :: ns ∧ ∀ y ∈ x :: ns, minI x ns ≤ y
  | [], x => ⟨List.mem_cons_self, fun y m => by simp at m; rw [m]; exact Int.le_refl _⟩
  | n :: ns, x => by
    obtain ⟨z, hz, h1, h2, h3⟩ : ∃ z, (if n < x then n else x) = z ∧ z ≤ n ∧ z ≤ x ∧ (z = n ∨ z = x) := by
      by_cases c : n < x
      · exact ⟨n, if_pos c, Int.le_refl _, by omega, .inl rfl⟩
      · exact ⟨x, if_neg c, by omega, Int.le_refl _, .inr rfl⟩
    have ih := minI_is ns z
    have e : minI x (n :: ns) = minI z ns := by show minI (if n < x then n else x) ns = _; rw [hz]
    rw [e]
    refine ⟨?_, fun y m => ?_⟩
    · rcases List.mem_cons.mp ih.1 with e | m
      · rw [e]
        rcases h3 with e | e <;> rw [e] <;> simp
      · exact List.mem_cons_of_mem _ (List.mem_cons_of_mem _ m)
    · have h0 := ih.2 _ List.mem_cons_self
      rcases List.mem_cons.mp m with e | m
      · rw [e]; exact Int.le_trans h0 h2
      · rcases List.mem_cons.mp m with e | m
        · rw [e]; exact Int.le_trans h0 h1
        · exact ih.2 y (List.mem_cons_of_mem _ m)
theorem maxI_is : ∀ (ns : List Int) (x : Int), maxI x ns ∈ x :: ns ∧ ∀ y ∈ x :: ns, y ≤ maxI x ns
  | [], x => ⟨List.mem_cons_self, fun y m => by simp at m; rw [m]; exact Int.le_refl _⟩
  | n :: ns, x => by
    obtain ⟨z, hz, h1, h2, h3⟩ : ∃ z, (if n > x then n else x) = z ∧ n ≤ z ∧ x ≤ z ∧ (z = n ∨ z = x) := by
      by_cases c : n > x
      · exact ⟨n, if_pos c, Int.le_refl _, by omega, .inl rfl⟩
      · exact ⟨x, if_neg c, by omega, Int.le_refl _, .inr rfl⟩
    have ih := maxI_is ns z
    have e : maxI x (n :: ns) = maxI z ns := by show maxI (if n > x then n else x) ns = _; rw [hz]
    rw [e]
    refine ⟨?_, fun y m => ?_⟩
    · rcases List.mem_cons.mp ih.1 with e | m
      · rw [e]
        rcases h3 with e | e <;> rw [e] <;> simp
      · exact List.mem_cons_of_mem _ (List.mem_cons_of_mem _ m)
    · have h0 := ih.2 _ List.mem_cons_self
      rcases List.mem_cons.mp m with e | m
      · rw [e]; exact Int.le_trans h2 h0
      · rcases List.mem_cons.mp m with e | m
        · rw [e]; exact Int.le_trans h1 h0
        · exact ih.2 y (List.mem_cons_of_mem _ m)
def bfName : Bf → Str
  | .len => "len"
  | .sorted => "sorted"
  | .list => "list"
  | .min => "min"
  | .max => "max"
  | .int => "int"
def bfVal : Bf → Value
  | .len => .builtin "len"
  | .sorted => .builtin "sorted"
  | .list => .type "list"
  | .min => .builtin "min"
  | .max => .builtin "max"
  | .int => .type "int"
def rBf (K : PySem.W.Frag) : Bf → List V → Hp → L2.VK → Prop
  | .len => fun xs H Q => (∃ p ys, xs = [.ref p] ∧ (SqL K H p ys ∨ SqT K H p ys) ∧ Q (.int ys.length) H)
  | .sorted => fun xs H Q => rSortedI K xs H Q ∨ ∃ (a : Addr) (kvs : List (Key × V)) (ks : List Int), xs = [.ref a] ∧ Rd H a (.dK kvs) ∧ kvs.map (·.1) = ks.map Sum.inl ∧ ks.length < 64 ∧
    ∀ (ys : List Int) (p : Addr), ys.Perm ks → ys.Pairwise (· ≤ ·) → H p = none → Q (.ref p) (upd H p (.lst (ys.map V.int)))
  | .list => fun xs H Q => ∃ p ys, xs = [.ref p] ∧ (SqL K H p ys ∨ SqT K H p ys) ∧ ∀ l, H l = none → Q (.ref l) (upd H l (.lst ys))
  | .min => fun xs H Q => (∃ i j, xs = [.int i, .int j] ∧ Q (.int (if j < i then j else i)) H) ∨ rMin K xs H Q
  | .max => fun xs H Q => (∃ i j, xs = [.int i, .int j] ∧ Q (.int (if j > i then j else i)) H) ∨ rMax K xs H Q
  | .int => fun xs H Q => (∃ i, xs = [.int i] ∧ Q (.int i) H) ∨ ∃ k, xs = [.bl k] ∧ Q (.int (if k then 1 else 0)) H
section
variable {Fn : Type} {Phi : Fn → LSp} {X : Cx} {G : SG} {b : Bs} {W : WX}
variable {e e1 e2 e3 : Expr} {m m1 m2 m3 : ME Fn} {pos p1 p2 apos cpos : Pos}
theorem call_bf (hc : X.calm = true) (f : Bf) : CallR X (bfVal f) (rBf X.K f) := by
  cases f with
  | len => exact call_len_seq
  | sorted => exact CallR.or cr_sortedI (call_sortedDI hc)
  | list => exact call_list_of
  | min => exact CallR.or (call_min2 hc) (cr_min hc)
  | max => exact CallR.or (call_max2 hc) (cr_max hc)
  | int => exact call_int1
theorem pe_bf {es : List Expr} {t : TA} (hc : X.calm = true) (f : Bf) (hg : Gl X (bfName f)) (hm : X.mg (bfName f) = none) (hs : simples (e :: es) = true) (ha : PA X (e :: es) t) : PE X (.Call (.Name (bfName f) p1) (e :: es) [] pos) (tCB (rBf X.K f) t) := by
  have h1 : simple e = true := by simp [simples] at hs; exact hs.1
  have h2 : simples es = true := by simp only [simples, List.all_cons, Bool.and_eq_true] at hs; exact hs.2
  have hst := simple_star h1 es X.env
  have hpl := simples_any h2 X.env pos
  cases f with
  | len => exact pe_callB (call_bf hc .len) hg hm PySem.boot_len ha (by decide +kernel) (by decide +kernel) hst hpl
  | sorted => exact pe_callB (call_bf hc .sorted) hg hm (by decide +kernel) ha (by decide +kernel) (by decide +kernel) hst hpl
  | list => exact pe_callTy (call_bf hc .list) hg hm (by decide +kernel) ha (by decide +kernel) (by decide +kernel) hst hpl
  | min => exact pe_callB (call_bf hc .min) hg hm (by decide +kernel) ha (by decide +kernel) (by decide +kernel) hst hpl
  | max => exact pe_callB (call_bf hc .max) hg hm (by decide +kernel) ha (by decide +kernel) (by decide +kernel) hst hpl
  | int => exact pe_callTy (call_bf hc .int) hg hm (by decide +kernel) ha (by decide +kernel) (by decide +kernel) hst hpl
theorem bf_ok {f : Bf} (T : CTx G X) {g : Gh} {ts rs : List R} {env : Env} {w2 : Wd} {Q0 : VK} {σ : St} {H : Hp} {Q : L2.VK} (hh : Hand G b g ts rs env w2 σ H Q0 Q) (q : blt f (rs.map (·.d)) fun r => Q0 r w2) : rBf X.K f (hands g ts.length rs.length) H Q := by
  have one : ∀ {d : D}, rs.map (·.d) = [d] → ∃ r, rs = [r] ∧ r.d = d ∧ hands g ts.length rs.length = [g.v (.tm ts.length)] ∧ FRep G H (g.v (.tm ts.length)) d (g.F (.tm ts.length)) := by
    intro d e
    cases rs with
    | nil => cases e
    | cons r rs =>
      cases rs with
      | nil =>
        have e' : r.d = d := (List.cons.inj e).1
        have := hh.rep0
        rw [e'] at this
        exact ⟨r, rfl, e', rfl, this⟩
      | cons _ _ => cases e
  have two : ∀ {d d2 : D}, rs.map (·.d) = [d, d2] → hands g ts.length rs.length = [g.v (.tm ts.length), g.v (.tm (ts.length + 1))] ∧ FRep G H (g.v (.tm ts.length)) d (g.F (.tm ts.length)) ∧ FRep G H (g.v (.tm (ts.length + 1))) d2 (g.F (.tm (ts.length + 1))) := by
    intro d d2 e
    cases rs with
    | nil => cases e
    | cons r rs =>
      cases rs with
      | nil => cases e
      | cons r2 rs =>
        cases rs with
        | nil =>
          obtain ⟨e1, e2⟩ := List.cons.inj e
          have e2 := (List.cons.inj e2).1
          have h0 := hh.rep0
          have h1 := hh.rep1
          rw [show r.d = d from e1] at h0
          rw [show r2.d = d2 from e2] at h1
          exact ⟨rfl, h0, h1⟩
        | cons _ _ => cases e
  generalize hds : rs.map (·.d) = ds at q
  match f, ds, q with
  | .len, [x], q =>
    obtain ⟨r, _, _, e, h⟩ := one hds
    rw [e]
    cases x with
    | lst ds =>
      obtain ⟨a, vs, F, h1, h2, h3, _⟩ := h.lst_of
      rw [h1]
      refine ⟨a, vs, rfl, .inl (SqL.of h2), ?_⟩
      rw [h3.length]
      exact hh.scal q (.int _)
    | tup ds =>
      obtain ⟨a, vs, h1, h2, h3⟩ := h.tup_of
      rw [h1]
      refine ⟨a, vs, rfl, .inr (by rw [← T.kk]; exact h2), ?_⟩
      rw [h3.length]
      exact hh.scal q (.int _)
    | scr ns =>
      obtain ⟨a, h1, h2⟩ := h.scr_of
      rw [h1]
      refine ⟨a, _, rfl, .inl (by rw [← T.kk]; exact h2), ?_⟩
      rw [List.length_map]
      exact hh.scal q (.int _)
    | _ => exact q.elim
  | .list, [.lst ds], q =>
    obtain ⟨r, _, _, e, h⟩ := one hds
    rw [e]
    obtain ⟨a, vs, F, h1, h2, h3, _⟩ := h.lst_of
    rw [h1]
    exact ⟨a, vs, rfl, .inl (SqL.of h2), fun p hp => hh.new q.2 hp (lst_rep hp (ncs_nil h3 q.1))⟩
  | .sorted, [.lst ds], q =>
    obtain ⟨r, _, _, e, h⟩ := one hds
    rw [e]
    obtain ⟨a, vs, F, h1, h2, h3, _⟩ := h.lst_of
    obtain ⟨ns, hn, q⟩ := q
    obtain ⟨hv, _⟩ := intsOf_rep h3 hn
    rw [h1]
    refine .inl ⟨a, ns, rfl, by rw [← hv]; exact SqL.of h2, fun ns' p hp hs hn => ?_⟩
    rw [sortI_eq hp hs]
    exact hh.new q hn (lst_rep hn (map_take _))
  | .sorted, [.dic ks], q =>
    obtain ⟨r, _, _, e, h⟩ := one hds
    rw [e]
    obtain ⟨a, kvs, h1, h2, h3, _⟩ := h.dic_of
    rw [h1]
    refine .inr ⟨a, kvs, ks.map (·.1), rfl, .inl h2, h3.keys, by rw [List.length_map]; exact q.1, fun ns' p hp hs hn => ?_⟩
    rw [sortI_eq hp hs]
    exact hh.new q.2 hn (lst_rep hn (map_take _))
  | .min, [.int i, .int j], q =>
    obtain ⟨e, h1, h2⟩ := two hds
    rw [e]
    exact .inl ⟨i, j, by rw [h1.int_of, h2.int_of], hh.scal q (.int _)⟩
  | .max, [.int i, .int j], q =>
    obtain ⟨e, h1, h2⟩ := two hds
    rw [e]
    exact .inl ⟨i, j, by rw [h1.int_of, h2.int_of], hh.scal q (.int _)⟩
  | .min, [.lst ds], q =>
    obtain ⟨r, _, _, e, h⟩ := one hds
    rw [e]
    obtain ⟨a, vs, F, h1, h2, h3, _⟩ := h.lst_of
    obtain ⟨n, ns, hn, q⟩ := q
    obtain ⟨hv, _⟩ := intsOf_rep h3 hn
    rw [h1]
    refine .inr ⟨a, n :: ns, rfl, by rw [← hv]; exact SqL.of h2, by simp, fun m hm hle => ?_⟩
    have hi := minI_is ns n
    have : m = minI n ns := Int.le_antisymm (hle _ hi.1) (hi.2 _ hm)
    rw [this]
    exact hh.scal q (.int _)
  | .max, [.lst ds], q =>
    obtain ⟨r, _, _, e, h⟩ := one hds
    rw [e]
    obtain ⟨a, vs, F, h1, h2, h3, _⟩ := h.lst_of
    obtain ⟨n, ns, hn, q⟩ := q
    obtain ⟨hv, _⟩ := intsOf_rep h3 hn
    rw [h1]
    refine .inr ⟨a, n :: ns, rfl, by rw [← hv]; exact SqL.of h2, by simp, fun m hm hle => ?_⟩
    have hi := maxI_is ns n
    have : m = maxI n ns := Int.le_antisymm (hi.2 _ hm) (hle _ hi.1)
    rw [this]
    exact hh.scal q (.int _)
  | .int, [.bl k], q =>
    obtain ⟨r, _, _, e, h⟩ := one hds
    rw [e]
    exact .inr ⟨k, by rw [h.bl_of], hh.scal q (.int _)⟩
  | .int, [.int k], q =>
    obtain ⟨r, _, _, e, h⟩ := one hds
    rw [e]
    exact .inl ⟨k, by rw [h.int_of], hh.scal q (.int _)⟩
theorem le_blt {f : Bf} {ms : MEs Fn} {es : List Expr} (T : CTx G X) (hc : X.calm = true) (hg : Gl X (bfName f)) (hs : simples (e :: es) = true) (h : LA Phi X G b W ms (e :: es)) : LE Phi X G b W (.blt f ms) (.Call (.Name (bfName f) p1) (e :: es) [] pos) := by
  refine PE.imp (pe_bf hc f hg (T.mgN _ (by cases f <;> decide +kernel)) hs h) fun σ H Q h => ?_
  refine tA_mono (tA_all (P := fun _ rs w1 Q _ => blt f (rs.map (·.d)) fun r => Q r w1) (tE_imp h fun env w Q E q => by simp only [lev] at q; exact q)) fun xs H1 q => ?_
  obtain ⟨g, ts, env, rs, w2, Q0, E0, hh, rfl, q, hx⟩ := q
  exact bf_ok T hh q
def tyName : Ty → Str
  | .int => "int"
  | .bool => "bool"
  | .list => "list"
  | .tuple => "tuple"
  | .str => "str"
  | _ => ""
def tyVal : Ty → String
  | .int => "int"
  | .bool => "bool"
  | .list => "list"
  | .tuple => "tuple"
  | .str => "str"
  | _ => ""
def Ty.plain : Ty → Bool
  | .ex _ => false
  | .valueError => false
  | _ => true
theorem isi_ok {H : Hp} {v : V} {d : D} {F : List Addr} {t : Ty} {c : Bool} (h : FRep G H v d F) (hp : t.plain = true) (e : isiD d t = some c) : ∃ s : String, TyX G.K H v (.type s) ∧ kitB s (tyVal t) = some c := by
  cases h with
  | non => exact ⟨_, .base .non, by cases t <;> first | exact absurd hp Bool.false_ne_true | (cases e; decide +kernel)⟩
  | bl b => exact ⟨_, .base (.bl b), by cases t <;> first | exact absurd hp Bool.false_ne_true | (cases e; decide +kernel)⟩
  | int b => exact ⟨_, .base (.int b), by cases t <;> first | exact absurd hp Bool.false_ne_true | (cases e; decide +kernel)⟩
  | tg b => exact ⟨_, .base (.str _), by cases t <;> first | exact absurd hp Bool.false_ne_true | (cases e; decide +kernel)⟩
  | tup h1 h2 =>
    rcases h1 with (h1 | ⟨o, h1⟩) | ⟨o, its, n, h1, h3, _⟩
    · exact ⟨_, .base (.tup h1), by cases t <;> first | exact absurd hp Bool.false_ne_true | (cases e; decide +kernel)⟩
    · exact ⟨_, .fTuple h1, by cases t <;> first | exact absurd hp Bool.false_ne_true | (cases e; decide +kernel)⟩
    · exact ⟨_, .kTuple h1 h3, by cases t <;> first | exact absurd hp Bool.false_ne_true | (cases e; decide +kernel)⟩
  | lst h1 h2 => exact ⟨_, .base (.lst h1), by cases t <;> first | exact absurd hp Bool.false_ne_true | (cases e; decide +kernel)⟩
  | obj => cases t <;> first | exact absurd hp Bool.false_ne_true | cases e
  | exc => cases t <;> first | exact absurd hp Bool.false_ne_true | cases e
  | dic => cases t <;> first | exact absurd hp Bool.false_ne_true | cases e
  | scr => cases t <;> first | exact absurd hp Bool.false_ne_true | cases e
  | hid => cases t <;> first | exact absurd hp Bool.false_ne_true | cases e
  | scr' => cases t <;> first | exact absurd hp Bool.false_ne_true | cases e
theorem le_isi {t : Ty} (T : CTx G X) (hp : t.plain = true) (hg : Gl X "isinstance") (hg2 : Gl X (tyName t)) (hs : simple e1 = true) (h1 : LE Phi X G b W m1 e1) : LE Phi X G b W (.isi m1 t) (.Call (.Name "isinstance" p1) [e1, .Name (tyName t) p2] [] pos) := by
  have hty : PE X (.Name (tyName t) p2) (tC (.ty (tyVal t))) := by
    have hm := T.mgN (tyName t) (by cases t <;> first | exact absurd hp Bool.false_ne_true | decide +kernel)
    cases t <;> first | exact absurd hp Bool.false_ne_true | exact pe_bltn hg2 hm (by decide +kernel) rfl (by decide +kernel) (by decide +kernel)
  refine PE.imp (pe_callB call_isi hg (T.mgN _ (by decide +kernel)) (by decide +kernel) (pa_cons h1 (pa_cons hty pa_nil) (simple_star hs _ _)) (by decide +kernel) (by decide +kernel) (simple_star hs _ _) (simples_any rfl _ _)) fun σ H Q h => ?_
  unfold tCB tCons
  refine tE_mono (tE_one (P := fun _ x w1 Q _ => onSome (isiD x.d t) fun b => Q (sc (.bl b)) w1) (tE_imp h fun env w Q E q => by simp only [lev] at q; exact q)) fun x H1 q => ?_
  obtain ⟨g, ts, env, r, w2, Q0, E0, hh, rfl, q, hx⟩ := q
  obtain ⟨c, hc, q⟩ := onSome_some q
  obtain ⟨s, hs1, hs2⟩ := isi_ok hh.rep0 hp hc
  exact ⟨_, _, _, _, c, rfl, .ty _, by rw [← T.kk]; exact hs1, kit_ty hs2, hh.scal q (.bl c)⟩
theorem le_count (T : CTx G X) (hs1 : simple e1 = true) (hs2 : simple e2 = true) (hl : (apos.endLine == cpos.line) = true) (h1 : LE Phi X G b W m1 e1) (h2 : LE Phi X G b W m2 e2) :
    LE Phi X G b W (.count m1 m2) (.Call (.Attribute e1 "count" apos) [e2] [] cpos) := by
  have hss : simples [e2] = true := by simp [simples, hs2]
  refine PE.imp (pe_bm PySem.F.plainAttrs_list PySem.F.slot_list_count PySem.F.type_list_count mt_lcount h1 (pa_cons h2 pa_nil (simple_star hs2 _ _)) (simple_base hs1 _ _) (simples_few hss (by simp) _ _) hl (simple_star hs2 _ _) (simples_any rfl _ _)) fun σ H Q h => ?_
  unfold tBM tCons
  refine tE_mono (tE_one (P := fun env x w1 Q E => x.d.onLst fun ds => lev Phi m2 env w1 (fun y w2 => y.d.onInt fun k => onSome (intsOf ds) fun ns => Q (sc (.int (ns.count k : Nat))) w2) E) (tE_imp h fun env w Q E q => by simp only [lev] at q; exact q)) fun x H1 q => ?_
  obtain ⟨g, ts, env, r, w1, Q0, E0, hh, rfl, q, hx⟩ := q
  obtain ⟨ds, hd, q⟩ := onLst_some q
  have e0 := hh.rep0
  rw [hd] at e0
  obtain ⟨a, vs, F, ha, hl, hr, _⟩ := e0.lst_of
  refine ⟨by rw [ha]; exact .inl ⟨rfl, vs, SqL.of hl⟩, ?_⟩
  refine ⟨g, ts ++ [r], env, w1, _, E0, hh.sim, q, fun r2 w2 g2 H2 q2 S2 k2 => ?_, hx.app⟩
  rw [List.append_assoc] at S2
  have hh2 : Hand G b g2 ts ([r] ++ [r2]) env w2 σ H2 Q0 Q := ⟨S2, fun r4 w4 g4 H4 q4 S4 k4 => hh.fin r4 w4 g4 H4 q4 S4 fun j hj => (k4 j hj).trans (k2 j (by simp; omega))⟩
  obtain ⟨k, hd2, q2⟩ := onInt_some q2
  obtain ⟨ns, hn, q2⟩ := onSome_some q2
  have f0 := hh2.rep (k := 0) (r := r) rfl
  have f1 := hh2.rep (k := 1) (r := r2) rfl
  rw [hd] at f0
  rw [hd2] at f1
  have v0 : g2.v (.tm ts.length) = V.ref a := (k2 ts.length (by simp)).trans ha
  have v1 : g2.v (.tm (ts ++ [r]).length) = g2.v (.tm (ts.length + 1)) := by simp
  rw [Nat.add_zero, v0] at f0
  obtain ⟨a', vs', F', ha', hl', hr', _⟩ := f0.lst_of
  obtain ⟨hv, _⟩ := intsOf_rep hr' hn
  refine ⟨a', ns, k, by rw [ha]; exact ha', by rw [v1, f1.int_of], by rw [← hv]; exact SqL.of hl', hh2.scal q2 (.int _)⟩
end
end LL
end
section
set_option Elab.async false
set_option linter.all false
set_option maxRecDepth 100000
/-! LCall: contracts over the heap, calls. -/
namespace LL
open PySem L2
/-- cells are lists and dicts -/
def IsCellO : HO → Prop
  | .lst _ => True
  | .dK _ => True
  | _ => False
theorem kind_of {H : Hp} {a a' : Addr} {o : HO} (h : H a' = some o) (e : a = a') (i : IsCellO o) : ∃ o, H a = some o ∧ IsCellO o := ⟨o, by rw [e]; exact h, i⟩
section
variable {G : SG} {H H' : Hp}
mutual
theorem FRep.kind : ∀ {v : V} {d : D} {F : List Addr}, FRep G H v d F → ∀ a ∈ F, ∃ o, H a = some o ∧ IsCellO o
  | _, _, _, .non, _, m => nomatch m
  | _, _, _, .bl b, _, m => nomatch m
  | _, _, _, .int i, _, m => nomatch m
  | _, _, _, .tg t, _, m => nomatch m
  | _, _, _, .obj a, _, m => nomatch m
  | _, _, _, .exc h, _, m => nomatch m
  | _, _, _, .tup h r, a, m => FReps.kind r a m
  | _, _, _, .lst h r, a, m => by
    rcases List.mem_cons.mp m with e | m
    · exact kind_of h e trivial
    · exact FReps.kind r a m
  | _, _, _, .dic h r, a, m => kind_of h (List.mem_singleton.mp m) trivial
  | _, _, _, .scr h, a, m => nomatch m
  | _, _, _, .scr' h, a, m => kind_of h (List.mem_singleton.mp m) trivial
  | _, _, _, .hid h, a, m => kind_of h (List.mem_singleton.mp m) trivial
theorem FReps.kind : ∀ {vs : List V} {ds : List D} {F : List Addr}, FReps G H vs ds F → ∀ a ∈ F, ∃ o, H a = some o ∧ IsCellO o
  | _, _, _, .nil, _, m => nomatch m
  | _, _, _, .cons r t, a, m => by
    rcases List.mem_append.mp m with m | m
    · exact FRep.kind r a m
    · exact FReps.kind t a m
end
theorem PRep.kind {v : V} {p : PV} {F : List Addr} (h : PRep G H v p F) : ∀ a ∈ F, ∃ o, H a = some o ∧ IsCellO o := by
  intro a m
  cases p with
  | rr r => exact FRep.kind h a m
  | pc x =>
    cases x with
    | val d y => exact FRep.kind h a m
    | lst ds =>
      obtain ⟨a', vs, rfl, rfl, ha, r⟩ := h
      exact kind_of ha (List.mem_singleton.mp m) trivial
    | dic ks =>
      obtain ⟨a', vs, rfl, rfl, ha, r⟩ := h
      exact kind_of ha (List.mem_singleton.mp m) trivial
    | mat rows =>
      obtain ⟨a', cs, rfl, rfl, nd, ha, hl, r⟩ := h
      rcases List.mem_cons.mp m with e | m
      · exact kind_of ha e trivial
      · obtain ⟨j, hj⟩ := List.getElem?_of_mem m
        have hjl : j < rows.length := by rw [← hl]; exact (List.getElem?_eq_some_iff.mp hj).1
        obtain ⟨vs, h1, _⟩ := r j a (rows[j]) hj (List.getElem?_eq_getElem hjl)
        exact ⟨_, h1, trivial⟩
end
/-- the entry of a call -/
def bs0 (H : Hp) (g : Gh) (w : Wd) : Bs where
  H0 := H
  M0 := fun a => (∃ o, w a = some o) ∨ ∃ p f x, plc [] [] w (.fd p f) = some (.pc x) ∧ x.own = true ∧ a ∈ g.F (.fd p f)
  X0 := fun a => ∃ p f x, plc [] [] w (.fd p f) = some (.pc x) ∧ x.own = false ∧ a ∈ g.F (.fd p f)
  P0 := fun _ => True
def parOf (ds : List D) : Env := ds.map fun d => some (.val d false)
/-- a contract over the heap -/
def liftSp (G : SG) (S : LSp) : Sp := fun vs H Q E => ∃ ds w g Q0 E0, Sim G (bs0 H g w) g [] (parOf ds) w (vs.map some) H ∧ vs.length = ds.length ∧ S ds w Q0 E0 ∧
  (∀ d w' g' H', Q0 d w' → Sim G (bs0 H g w) g' [fr d] [] w' [] H' → Q (g'.v (.tm 0)) H') ∧
  (∀ x w' g' H', E0 x w' → Sim G (bs0 H g w) g' [] [] w' [] H' → E (.ref (G.xc x)) none H')
theorem plc_fd' {env : Env} {ts : List R} {w : Wd} {p : Nat} {f : Fd} : plc env ts w (.fd p f) = plc [] [] w (.fd p f) := rfl
theorem plc_fd_pc {env : Env} {ts : List R} {w : Wd} {p : Nat} {f : Fd} {q : PV} (h : plc env ts w (.fd p f) = some q) : ∃ x, q = .pc x := by
  simp only [plc] at h
  cases hw : w p with
  | none => rw [hw] at h; cases h
  | some o =>
    rw [hw] at h
    have h : (fget o.fs f).map PV.pc = some q := h
    cases hf : fget o.fs f with
    | none => rw [hf] at h; cases h
    | some x => rw [hf] at h; exact ⟨x, (Option.some.inj h).symm⟩
section
variable {G : SG} {b : Bs} {g g' : Gh} {ts us : List R} {env env' : Env} {w w' : Wd} {σ σ' : St} {H H' : Hp}
/-- what a callee may write is not what the slots and the values at hand hold -/
theorem Sim.notM (S : Sim G b g ts env w σ H) {x : Pl} {p : PV} (hx : ∀ q f, x ≠ .fd q f) (e : plc env ts w x = some p) {a : Addr} (m : a ∈ g.F x) : ¬ (bs0 H g w).M0 a := by
  rintro (⟨o, ho⟩ | ⟨q, f, y, e2, own, m2⟩)
  · obtain ⟨o', h1, h2⟩ := (S.rep x p e).kind a m
    obtain ⟨dx, h3, _⟩ := S.ins a o ho
    rw [h1] at h3
    cases h3
    exact h2
  · refine S.dj (.fd q f) x (.pc y) p e2 e own ⟨fun z => hx q f z.symm, ?_⟩ a m2 m
    rintro ⟨i, _, _, z, _⟩
    cases z
/-- arguments: the callee's view at its entry -/
theorem Sim.enter (S : Sim G b g ts env w σ H) {vs : List V} {ds : List D} (hl : vs.length = ds.length)
    (ha : ∀ (i : Nat) (v : V) (d : D), vs[i]? = some v → ds[i]? = some d → ∃ F, FRep G H v d F ∧ ∀ a ∈ F, ∀ p f x, plc [] [] w (.fd p f) = some (.pc x) → x.own = true → a ∉ g.F (.fd p f)) :
    ∃ g1, (∀ p f, g1.v (.fd p f) = g.v (.fd p f) ∧ g1.F (.fd p f) = g.F (.fd p f)) ∧ Sim G (bs0 H g1 w) g1 [] (parOf ds) w (vs.map some) H := by
  have ha' : ∀ i : Nat, ∃ F, ∀ (v : V) (d : D), vs[i]? = some v → ds[i]? = some d → FRep G H v d F ∧ ∀ a ∈ F, ∀ p f x, plc [] [] w (.fd p f) = some (.pc x) → x.own = true → a ∉ g.F (.fd p f) := by
    intro i
    cases h1 : vs[i]? with
    | none => exact ⟨[], fun v d e => by cases e⟩
    | some v =>
      cases h2 : ds[i]? with
      | none => exact ⟨[], fun v d _ e => by cases e⟩
      | some d =>
        obtain ⟨F, h3, h4⟩ := ha i v d h1 h2
        exact ⟨F, fun v' d' e1 e2 => by cases e1; cases e2; exact ⟨h3, h4⟩⟩
  let Fs : Nat → List Addr := fun i => Classical.choose (ha' i)
  have hF : ∀ (i : Nat) (v : V) (d : D), vs[i]? = some v → ds[i]? = some d → FRep G H v d (Fs i) ∧ ∀ a ∈ Fs i, ∀ p f x, plc [] [] w (.fd p f) = some (.pc x) → x.own = true → a ∉ g.F (.fd p f) := fun i => Classical.choose_spec (ha' i)
  let g1 : Gh := ⟨fun x => match x with | .sl i => (vs[i]?).getD .non | y => g.v y, fun x => match x with | .sl i => Fs i | y => g.F y⟩
  have slot : ∀ i p, plc (parOf ds) [] w (.sl i) = some p → ∃ v d, vs[i]? = some v ∧ ds[i]? = some d ∧ p = .pc (.val d false) := by
    intro i p e
    simp only [plc, parOf, List.getElem?_map] at e
    cases h2 : ds[i]? with
    | none => rw [h2] at e; cases e
    | some d =>
      rw [h2] at e
      have hi : i < vs.length := by rw [hl]; exact (List.getElem?_eq_some_iff.mp h2).1
      exact ⟨vs[i], d, List.getElem?_eq_getElem hi, rfl, (Option.some.inj e).symm⟩
  refine ⟨g1, fun p f => ⟨rfl, rfl⟩, ⟨fun x p e => ?_, fun i x e => ?_, fun x y p q e1 e2 own ap a m => ?_, fun p o e => S.ins p o e, fun x p n e yy a m => ?_, fun q f p e a m => ?_, fun p o e => .inl (.inl ⟨o, e⟩), fun a o e n => e, fun a e => e, by simp [parOf, hl], fun x p n e a m => .inr (.inl trivial), fun x p q f pq n e yy e2 a m => ?_⟩⟩
  · cases x with
    | sl i =>
      obtain ⟨v, d, h1, h2, rfl⟩ := slot i p e
      show FRep G H ((vs[i]?).getD .non) d (Fs i)
      rw [h1]
      exact (hF i v d h1 h2).1
    | tm i => simp [plc] at e
    | fd q f => exact S.rep (.fd q f) p e
  · have e' : plc (parOf ds) [] w (.sl i) = some (.pc x) := plc_sl e
    obtain ⟨v, d, h1, h2, h3⟩ := slot i _ e'
    show (vs.map some)[i]? = some (some ((vs[i]?).getD .non))
    rw [List.getElem?_map, h1]; rfl
  · cases x with
    | sl i =>
      obtain ⟨v, d, h1, h2, rfl⟩ := slot i p e1
      cases own
    | tm i => simp [plc] at e1
    | fd q' f =>
      obtain ⟨z, rfl⟩ := plc_fd_pc e1
      cases y with
      | sl i =>
        obtain ⟨v, d, h1, h2, rfl⟩ := slot i q e2
        intro m2
        exact (hF i v d h1 h2).2 a m2 q' f z e1 own m
      | tm i => simp [plc] at e2
      | fd q2 f2 => exact S.dj (.fd q' f) (.fd q2 f2) (.pc z) q e1 e2 own ⟨ap.1, fun ⟨_, _, _, z, _⟩ => by cases z⟩ a m
  · cases x with
    | sl i =>
      obtain ⟨v, d, h1, h2, rfl⟩ := slot i p e
      cases yy
    | tm i => simp [plc] at e
    | fd q' f => exact absurd rfl (n q' f)
  · obtain ⟨z, rfl⟩ := plc_fd_pc e
    cases ho : z.own with
    | true => exact .inr (.inl (.inr ⟨q, f, z, e, ho, m⟩))
    | false => exact .inr (.inr ⟨⟨q, f, z, e, ho, m⟩, ho⟩)
  · cases x with
    | sl i =>
      obtain ⟨v, d, h1, h2, rfl⟩ := slot i p e
      cases yy
    | tm i => simp [plc] at e
    | fd q' f => exact absurd rfl (n q' f)
theorem plc_nil_tm {rs : List R} {k : Nat} : plc [] rs w (.tm k) = rs[k]?.map PV.rr := rfl
/-- behind a call: rs, what the callee hands back (one value, or none) -/
theorem Sim.leave (S : Sim G b g ts env w σ H) {g0 : Gh} (h0 : ∀ p f, g0.F (.fd p f) = g.F (.fd p f)) {rs : List R} (S' : Sim G (bs0 H g0 w) g' rs [] w' [] H') (hy : ∀ r ∈ rs, r.yy = true) :
    ∃ g2, Keeps g g2 ts.length ∧ (∀ k, g2.v (.tm (ts.length + k)) = g'.v (.tm k)) ∧ Sim G b g2 (ts ++ rs) env w' σ H' := by
  have hM : ∀ a, (bs0 H g0 w).M0 a → (bs0 H g w).M0 a := by
    rintro a (h | ⟨p, f, x, h1, h2, h3⟩)
    · exact .inl h
    · exact .inr ⟨p, f, x, h1, h2, by rw [← h0]; exact h3⟩
  have hX : ∀ a, (bs0 H g0 w).X0 a → (bs0 H g w).X0 a := by
    rintro a ⟨p, f, x, h1, h2, h3⟩
    exact ⟨p, f, x, h1, h2, by rw [← h0]; exact h3⟩
  let g2 : Gh := ⟨fun x => match x with | .sl i => g.v (.sl i) | .tm k => if k < ts.length then g.v (.tm k) else g'.v (.tm (k - ts.length)) | .fd p f => g'.v (.fd p f),
    fun x => match x with | .sl i => g.F (.sl i) | .tm k => if k < ts.length then g.F (.tm k) else g'.F (.tm (k - ts.length)) | .fd p f => g'.F (.fd p f)⟩
  -- where a place comes from
  have src : ∀ x p, plc env (ts ++ rs) w' x = some p → ((∀ q f, x ≠ .fd q f) ∧ plc env ts w x = some p ∧ g2.v x = g.v x ∧ g2.F x = g.F x) ∨
      ∃ y, plc [] rs w' y = some p ∧ g2.v x = g'.v y ∧ g2.F x = g'.F y ∧ ((∃ k, x = .tm (ts.length + k) ∧ y = .tm k) ∨ (∃ q f, x = .fd q f ∧ y = .fd q f)) := by
    intro x p e
    cases x with
    | sl i => exact .inl ⟨(fun q f z => by cases z), e, rfl, rfl⟩
    | fd q f => exact .inr ⟨.fd q f, e, rfl, rfl, .inr ⟨q, f, rfl, rfl⟩⟩
    | tm k =>
      have e' : (ts ++ rs)[k]?.map PV.rr = some p := e
      by_cases hk : k < ts.length
      · rw [List.getElem?_append_left hk] at e'
        exact .inl ⟨(fun q f z => by cases z), e', if_pos hk, if_pos hk⟩
      · have hk' : ts.length ≤ k := by omega
        rw [List.getElem?_append_right hk'] at e'
        exact .inr ⟨.tm (k - ts.length), e', if_neg hk, if_neg hk, .inl ⟨k - ts.length, by rw [Nat.add_sub_cancel' hk'], rfl⟩⟩
  have stay : ∀ a o, H a = some o → ¬ (bs0 H g w).M0 a → H' a = some o := fun a o e n => S'.fr a o e fun z => n (hM a z)
  have evo : Evo H H' := fun a o e i => stay a o e (by
    rintro (⟨o', ho⟩ | ⟨q, f, y, e2, own, m2⟩)
    · obtain ⟨dx, h3, _⟩ := S.ins a o' ho
      rw [e] at h3
      cases h3
      exact i
    · obtain ⟨o', h1, h2⟩ := (S.rep (.fd q f) (.pc y) e2).kind a m2
      rw [e] at h1
      cases h1
      cases o <;> first | exact h2 | exact i)
  have keep : ∀ x p, (∀ q f, x ≠ .fd q f) → plc env ts w x = some p → ∀ a ∈ g.F x, H' a = H a := fun x p n e a m => by
    obtain ⟨o, h1, _⟩ := (S.rep x p e).kind a m
    rw [h1]
    exact stay a o h1 (S.notM n e m)
  -- a cell of the callee's
  have old : ∀ q f p, plc [] rs w' (.fd q f) = some p → ∀ a ∈ g'.F (.fd q f), H a = none ∨ (bs0 H g w).M0 a ∨ ((bs0 H g w).X0 a ∧ p.own = false) := fun q f p e a m => by
    rcases S'.yf q f p e a m with z | z | ⟨z, z2⟩
    · exact .inl z
    · exact .inr (.inl (hM a z))
    · exact .inr (.inr ⟨hX a z, z2⟩)
  have here : ∀ x p, plc env ts w x = some p → ∀ a ∈ g.F x, H a ≠ none := fun x p e a m => (S.rep x p e).cells a m
  have young : ∀ k p, plc [] rs w' (.tm k) = some p → p.young = true := by
    intro k p e
    have e' : rs[k]?.map PV.rr = some p := e
    cases hk : rs[k]? with
    | none => rw [hk] at e'; cases e'
    | some r =>
      rw [hk] at e'
      have := Option.some.inj e'
      rw [← this]
      exact hy r (List.mem_of_getElem? hk)
  have mine : ∀ a, (bs0 H g w).M0 a → (∃ o, IsCellO o ∧ H a = some o) ∨ H a = none ∨ ∃ p o, w p = some o ∧ a = p := by
    rintro a (⟨o, ho⟩ | ⟨q, f, y, e2, own, m2⟩)
    · exact .inr (.inr ⟨a, o, ho, rfl⟩)
    · obtain ⟨o', h1, h2⟩ := (S.rep (.fd q f) (.pc y) e2).kind a m2
      exact .inl ⟨o', h2, h1⟩
  have M0b : ∀ a, (bs0 H g w).M0 a → b.M0 a ∨ b.H0 a = none := by
    rintro a (⟨o, ho⟩ | ⟨q, f, y, e2, own, m2⟩)
    · exact S.yo a o ho
    · rcases S.yf q f (.pc y) e2 a m2 with z | z | ⟨_, z⟩
      · exact .inr z
      · exact .inl z
      · have z' : y.own = false := z
        rw [own] at z'; cases z'
  refine ⟨g2, fun k hk => if_pos hk, fun k => ?_, ⟨fun x p e => ?_, fun i x e => ?_, fun x y p q e1 e2 own ap a m m2 => ?_, fun p o e => ?_, fun x p n e yy a m => ?_, fun q f p e a m => ?_, fun p o e => ?_, fun a o e n => ?_, fun a e => ?_, S.len, fun x p n e a m => ?_, fun x p q f pq n e yy e2 a m m2 => ?_⟩⟩
  · show (if ts.length + k < ts.length then _ else g'.v (.tm (ts.length + k - ts.length))) = _
    rw [if_neg (by omega), Nat.add_sub_cancel_left]
  · rcases src x p e with ⟨n, e', hv, hF⟩ | ⟨y, e', hv, hF, _⟩
    · rw [hv, hF]
      exact (S.rep x p e').stay evo (keep x p n e')
    · rw [hv, hF]
      exact S'.rep y p e'
  · exact S.sig i x e
  · rcases src x p e1 with ⟨n1, f1, _, F1⟩ | ⟨x', f1, _, F1, h1⟩
    · rw [F1] at m
      rcases src y q e2 with ⟨n2, f2, _, F2⟩ | ⟨y', f2, _, F2, h2⟩
      · rw [F2] at m2
        exact S.dj x y p q f1 f2 own ap a m m2
      · rw [F2] at m2
        rcases h2 with ⟨k, _, rfl⟩ | ⟨q2, f', _, rfl⟩
        · have := S'.yg (.tm k) q (fun _ _ z => by cases z) f2 (young k q f2) a m2
          exact here x p f1 a m this
        · rcases old q2 f' q f2 a m2 with z | z | ⟨⟨q3, f3, x3, z1, z2, z3⟩, _⟩
          · exact here x p f1 a m z
          · exact S.notM n1 f1 m z
          · exact S.dj x (.fd q3 f3) p (.pc x3) f1 z1 own ⟨n1 q3 f3, fun ⟨_, _, _, _, z, _⟩ => by cases z⟩ a m z3
    · rw [F1] at m
      rcases src y q e2 with ⟨n2, f2, _, F2⟩ | ⟨y', f2, _, F2, h2⟩
      · rw [F2] at m2
        rcases h1 with ⟨k, _, rfl⟩ | ⟨q2, f', _, rfl⟩
        · have := S'.yg (.tm k) p (fun _ _ z => by cases z) f1 (young k p f1) a m
          exact here y q f2 a m2 this
        · rcases old q2 f' p f1 a m with z | z | ⟨_, z⟩
          · exact here y q f2 a m2 z
          · exact S.notM n2 f2 m2 z
          · rw [own] at z; cases z
      · rw [F2] at m2
        refine S'.dj x' y' p q f1 f2 own ⟨?_, ?_⟩ a m m2
        · intro z
          subst z
          rcases h1 with ⟨k, rfl, e⟩ | ⟨q2, f', rfl, e⟩
          · rcases h2 with ⟨k', rfl, e'⟩ | ⟨q2', f'', rfl, e'⟩
            · rw [e] at e'
              have := Pl.tm.inj e'
              subst this
              exact ap.1 rfl
            · rw [e] at e'; cases e'
          · rcases h2 with ⟨k', rfl, e'⟩ | ⟨q2', f'', rfl, e'⟩
            · rw [e] at e'; cases e'
            · rw [e] at e'
              obtain ⟨z1, z2⟩ := Pl.fd.inj e'
              subst z1; subst z2
              exact ap.1 rfl
        · rintro ⟨i, k, r, z, _⟩
          rcases h1 with ⟨k', _, e⟩ | ⟨q2, f', _, e⟩ <;> (rw [e] at z; cases z)
  · exact S'.ins p o e
  · rcases src x p e with ⟨n1, f1, _, F1⟩ | ⟨x', f1, _, F1, h1⟩
    · rw [F1] at m
      exact S.yg x p n f1 yy a m
    · rw [F1] at m
      rcases h1 with ⟨k, _, rfl⟩ | ⟨q2, f', hx, rfl⟩
      · exact S.gr a (S'.yg (.tm k) p (fun _ _ z => by cases z) f1 (young k p f1) a m)
      · exact absurd hx (n q2 f')
  · rcases old q f p e a m with z | z | ⟨⟨q3, f3, x3, z1, z2, z3⟩, z4⟩
    · exact .inl (S.gr a z)
    · rcases M0b a z with z | z
      · exact .inr (.inl z)
      · exact .inl z
    · rcases S.yf q3 f3 (.pc x3) z1 a z3 with z | z | ⟨z, _⟩
      · exact .inl z
      · exact .inr (.inl z)
      · exact .inr (.inr ⟨z, z4⟩)
  · rcases S'.yo p o e with z | z
    · exact M0b p (hM p z)
    · exact .inr (S.gr p z)
  · refine stay a o (S.fr a o e n) fun z => ?_
    rcases M0b a z with z | z
    · exact n z
    · rw [z] at e; cases e
  · exact S.gr a (S'.gr a e)
  · rcases src x p e with ⟨n1, f1, _, F1⟩ | ⟨x', f1, _, F1, h1⟩
    · rw [F1] at m
      exact S.yp x p n f1 a m
    · rw [F1] at m
      rcases h1 with ⟨k, _, rfl⟩ | ⟨q2, f', hx, rfl⟩
      · exact .inl (S.gr a (S'.yg (.tm k) p (fun _ _ z => by cases z) f1 (young k p f1) a m))
      · exact absurd hx (n q2 f')
  · have m2' : a ∈ g'.F (.fd q f) := m2
    have e2' : plc [] rs w' (.fd q f) = some pq := e2
    rcases src x p e with ⟨n1, f1, _, F1⟩ | ⟨x', f1, _, F1, h1⟩
    · rw [F1] at m
      rcases old q f pq e2' a m2' with z | z | ⟨⟨q3, f3, x3, z1, z2, z3⟩, _⟩
      · exact here x p f1 a m z
      · exact S.notM n1 f1 m z
      · exact S.fy x p q3 f3 (.pc x3) n1 f1 yy z1 a m z3
    · rw [F1] at m
      rcases h1 with ⟨k, _, rfl⟩ | ⟨q2, f', hx, rfl⟩
      · exact S'.fy (.tm k) p q f pq (fun _ _ z => by cases z) f1 (young k p f1) e2' a m m2'
      · exact absurd hx (n q2 f')
end
end LL
end
section
set_option Elab.async false
set_option linter.all false
set_option maxRecDepth 100000
/-! LCall2: calls of defs, methods, classes. -/
namespace LL
open PySem L2
theorem eval_meth {o : Expr} {m : Str} {apos pos : Pos} {args : List Expr} {env : PySem.Env} (ho : simple o = true) (hs : simples args = true) (hn : args.length < 20) (hl : (apos.endLine == pos.line) = true) :
    eval (.Call (.Attribute o m apos) args [] pos) env = (do
      let ov ← eval o env
      standAt apos.atName
      let (f, first) ← holding [ov] (getMethod ov m (do return (← importBound o env).getD true))
      callWith pos f first (backTo pos (starEach args env)) (backToKw pos (keywordEach [] env))) := by
  rw [arm_eval_Call, simple_base ho]
  have hf : methodCallForm (args.length + ([] : List Keyword).length) (backTo pos (starEach args env)) (backToKw pos (keywordEach [] env)) = true := simples_few hs hn env pos
  simp only [methodCall, hf, calleeOf, methodCallPos, hl, if_true, Bool.not_true, Bool.false_or, pure_bind]
section
variable {X : Cx} {CX : CXT} {k : Nat} {f C : Addr} {fd : FuncData} {ps : List Str} {sp : Sp} {E : St → XK} {x m : Str} {p pos apos : Pos} {e o : Expr} {es : List Expr} {ta : TE} {t : TA}
def tMethS (C : Addr) (m : Str) (sp : Sp) (E : St → XK) (ta : TE) (t : TA) : TE := fun σ H Q => ta σ H fun x H1 => ∃ a dx fs, x = .ref a ∧ H1 a = some (.ins C dx fs) ∧ fs.lookup m = none ∧
  t σ H1 fun vs H2 => sp (x :: vs) H2 Q (E σ)
theorem pe_methS (he : PE X o ta) (c : Cls X.K C) (hm : Meth X.K C m f) (F : FnOk X.prog X.w X.K X.mg X.base CX k f fd ps sp) (hr : Room k X.A) (hb : Binds X.K fd ps []) (hx : ∀ σ, PassesAt CX X σ (E σ)) (ha : PA X (e :: es) t)
    (ho : simple o = true) (hs : simples (e :: es) = true) (hn : (e :: es).length < 20) (hl : (apos.endLine == pos.line) = true) : PE X (.Call (.Attribute o m apos) (e :: es) [] pos) (tMethS C m sp E ta t) := by
  refine ⟨fun pins s σ H Q I h => ?_⟩
  refine PySem.W.methodCall_KW (thn (he.run pins s σ H _ I h) fun u s1 ⟨y, H1, I1, rx, a, dx, fs, ex, ea, l, q⟩ => ?_) (eval_meth ho hs hn hl)
  subst ex
  obtain rfl : u = Value.ref a := rx
  refine getmeth_ok I1 ea c hm l ?_
  have h1 : simple e = true := by simp [simples] at hs; exact hs.1
  have h2 : simples es = true := by simp only [simples, List.all_cons, Bool.and_eq_true] at hs; exact hs.2
  refine PySem.W.callWith_K (first := [.ref a]) (h₀ := X.base) I1.ok.mod.kin hm.kp (thn (ha.run pos pins s1 σ H1 _ I1 q) fun us s2 ⟨vs, H2, I2, r, q2⟩ => ⟨I2.kIn, ?_⟩) (simple_star h1 _ _) (simples_any h2 _ _)
  exact run_fnS (us := .ref a :: us) (vs := .ref a :: vs) F hr hb (hx σ) I2 (.cons rfl r) q2
theorem pe_methS0 (he : PE X o ta) (c : Cls X.K C) (hm : Meth X.K C m f) (F : FnOk X.prog X.w X.K X.mg X.base CX k f fd ps sp) (hr : Room k X.A) (hb : Binds X.K fd ps []) (hx : ∀ σ, PassesAt CX X σ (E σ))
    (ho : simple o = true) (hl : (apos.endLine == pos.line) = true) : PE X (.Call (.Attribute o m apos) [] [] pos) (tMethS C m sp E ta tNil) := by
  refine ⟨fun pins s σ H Q I h => ?_⟩
  refine PySem.W.methodCall_KW (thn (he.run pins s σ H _ I h) fun u s1 ⟨y, H1, I1, rx, a, dx, fs, ex, ea, l, q⟩ => ?_) (eval_meth ho (by rfl) (by decide) hl)
  subst ex
  obtain rfl : u = Value.ref a := rx
  refine getmeth_ok I1 ea c hm l ?_
  exact PySem.W.callWith_K0 (first := [.ref a]) I1.kIn hm.kp (run_fnS (us := [.ref a]) (vs := [.ref a]) F hr hb (hx σ) I1 (.cons rfl .nil) q)
end
/-- a def, a method, a class that may be called -/
structure DefAt {Fn : Type} (Phi : Fn → LSp) (X : Cx) (G : SG) (n : Nat) (f : Fn) (nm : Str) : Prop where
  ex : ∃ a fd ps, FnOk X.prog X.w X.K X.mg X.base (L2.CX X.prog X.w) n a fd ps (liftSp G (Phi f)) ∧ Binds X.K fd ps [] ∧ PySem.W.keepIn X.K (.ref a) = true ∧ X.mg nm = some (.ref a)
structure MethAt {Fn : Type} (Phi : Fn → LSp) (X : Cx) (G : SG) (n : Nat) (c : Cl) (f : Fn) (nm : Str) : Prop where
  ex : ∃ a fd ps, FnOk X.prog X.w X.K X.mg X.base (L2.CX X.prog X.w) n a fd ps (liftSp G (Phi f)) ∧ Binds X.K fd ps [] ∧ Meth X.K (G.ca c) nm a
  has : G.hc c = true
  nofd : ∀ f : Fd, fdS f ≠ nm
structure NewAt {Fn : Type} (Phi : Fn → LSp) (X : Cx) (G : SG) (n : Nat) (c : Cl) (f : Fn) (nm : Str) : Prop where
  ex : ∃ a fd ps, FnOk X.prog X.w X.K X.mg X.base (L2.CX X.prog X.w) n a fd ps (liftSp G (Phi f)) ∧ Binds X.K fd ps [] ∧ Mk X.K (G.ca c) a ∧ X.mg nm = some (.ref (G.ca c))
  has : G.hc c = true
section
variable {Fn : Type} {Phi : Fn → LSp} {X : Cx} {G : SG} {b : Bs} {W : WX}
variable {e e1 e2 e3 : Expr} {m m1 m2 m3 : ME Fn} {pos p1 p2 apos cpos : Pos}
theorem parOf_map (us : List R) : parOf (us.map (·.d)) = us.map fun r => some (.val r.d false) := by simp [parOf]
theorem hands_get {g : Gh} : ∀ (k n i : Nat), i < k → (hands g n k)[i]? = some (g.v (.tm (n + i)))
  | k + 1, n, 0, _ => rfl
  | k + 1, n, i + 1, h => by
    show (hands g (n + 1) k)[i]? = _
    rw [hands_get k (n + 1) i (by omega), show n + 1 + i = n + (i + 1) by omega]
theorem hands_get' {g : Gh} {k n i : Nat} {v : V} (h : (hands g n k)[i]? = some v) : i < k ∧ v = g.v (.tm (n + i)) := by
  have hi : i < k := by
    have := (List.getElem?_eq_some_iff.mp h).1
    rwa [hands_length] at this
  rw [hands_get k n i hi] at h
  exact ⟨hi, (Option.some.inj h).symm⟩
/-- the values at hand, handed to a def -/
theorem call_ok {g : Gh} {ts us : List R} {env : Env} {w : Wd} {σ : St} {H : Hp} {Q : L2.VK} {E : XK} {S : LSp} {Q0 : D → Wd → Prop} {E0 : Ex → Wd → Prop}
    (Si : Sim G b g (ts ++ us) env w σ H) (q : S (us.map (·.d)) w Q0 E0)
    (hq : ∀ d w' g2 H', Q0 d w' → Sim G b g2 (ts ++ [fr d]) env w' σ H' → Keeps g g2 ts.length → Q (g2.v (.tm ts.length)) H')
    (hx : ∀ x w' g2 H', E0 x w' → Sim G b g2 ts env w' σ H' → E (.ref (G.xc x)) none H') : liftSp G S (hands g ts.length us.length) H Q E := by
  have hl : (hands g ts.length us.length).length = (us.map (·.d)).length := by rw [hands_length, List.length_map]
  obtain ⟨g1, k1, S1⟩ := Si.enter (vs := hands g ts.length us.length) (ds := us.map (·.d)) hl (by
    intro i v d e1 e2
    obtain ⟨hi, rfl⟩ := hands_get' e1
    rw [List.getElem?_map] at e2
    cases hu : us[i]? with
    | none => rw [hu] at e2; cases e2
    | some r =>
      rw [hu] at e2
      have e2 := Option.some.inj e2
      subst e2
      have hp : plc env (ts ++ us) w (.tm (ts.length + i)) = some (.rr r) := by
        show (ts ++ us)[ts.length + i]?.map PV.rr = _
        rw [List.getElem?_append_right (Nat.le_add_right _ _), Nat.add_sub_cancel_left, hu]; rfl
      refine ⟨g.F (.tm (ts.length + i)), Si.rep _ _ hp, fun a ma p f x ep own m2 => ?_⟩
      exact Si.dj (.fd p f) (.tm (ts.length + i)) (.pc x) (.rr r) ep hp own ⟨(fun z => by cases z), fun ⟨_, _, _, z, _⟩ => by cases z⟩ a m2 ma)
  have Sd := Si.drop
  refine ⟨_, w, g1, Q0, E0, S1, hl, q, fun d w' g' H' q' S' => ?_, fun x w' g' H' q' S' => ?_⟩
  · obtain ⟨g2, kp, kv, S2⟩ := Sd.leave (fun p f => (k1 p f).2) S' (by intro r m; rw [List.mem_singleton.mp m]; rfl)
    have := hq d w' g2 H' q' S2 kp
    have e := kv 0
    rw [Nat.add_zero] at e
    rw [e] at this
    exact this
  · obtain ⟨g2, kp, kv, S2⟩ := Sd.leave (fun p f => (k1 p f).2) S' (by intro r m; cases m)
    rw [List.append_nil] at S2
    exact hx x w' g2 H' q' S2
theorem le_call {n : Nat} {f : Fn} {nm : Str} {ms : MEs Fn} {es : List Expr} (tk : Takes X W) (hr : Room n X.A) (F : DefAt Phi X G n f nm) (hg : Gl X nm) (hdb : (nm == ("__debug__" : Str)) = false) (hs : simples (e :: es) = true) (h : LA Phi X G b W ms (e :: es)) :
    LE Phi X G b W (.call f ms) (.Call (.Name nm p1) (e :: es) [] pos) := by
  obtain ⟨a, fd, ps, F, hb, hk, hm⟩ := F.ex
  have h1 : simple e = true := by simp [simples] at hs; exact hs.1
  have h2 : simples es = true := by simp only [simples, List.all_cons, Bool.and_eq_true] at hs; exact hs.2
  refine PE.imp (pe_callS F hr hg hm hk hb (fun σ => passAt tk σ) h hdb (simple_star h1 _ _) (simples_any h2 _ _)) fun σ H Q h => ?_
  refine tA_mono (tA_all (P := fun _ rs w1 Q E => Phi f (rs.map (·.d)) w1 (fun d w2 => Q (fr d) w2) E) (tE_imp h fun env w Q E q => by simp only [lev] at q; exact q)) fun xs H1 q => ?_
  obtain ⟨g, ts, env, rs, w2, Q0, E0, hh, rfl, q, hx⟩ := q
  exact call_ok hh.sim q (fun d w' g2 H' q' S2 k2 => hh.fin _ w' g2 H' q' S2 k2) fun x w' g2 H' q' S2 => hx x w' g2 H' q' S2
theorem meth_ins (T : CTx G X) {g : Gh} {ts : List R} {env : Env} {w : Wd} {σ : St} {H : Hp} (S : Sim G b g ts env w σ H) {p : Nat} {ob : Ob} (hw : w p = some ob) {nm : Str} (hn : ∀ f : Fd, fdS f ≠ nm) :
    ∃ dx fs, H p = some (.ins (G.ca ob.c) dx fs) ∧ fs.lookup nm = none := by
  obtain ⟨dx, h1, _⟩ := S.ins p ob hw
  refine ⟨dx, _, h1, ?_⟩
  generalize ob.fs = fs
  induction fs with
  | nil => rfl
  | cons z r ih =>
    rw [List.map_cons, List.lookup_cons]
    have : (nm == fdS z.1) = false := by
      cases q : (nm == fdS z.1) with
      | false => rfl
      | true => exact absurd (by simpa using q) (fun e => hn z.1 (Eq.symm e))
    simp only [this]
    exact ih
theorem le_meth {n : Nat} {c : Cl} {f : Fn} {nm : Str} {ms : MEs Fn} {es : List Expr} (T : CTx G X) (tk : Takes X W) (hr : Room n X.A) (F : MethAt Phi X G n c f nm) (ho : simple e1 = true) (hs : simples (e :: es) = true) (hn : (e :: es).length < 20) (hl : (apos.endLine == pos.line) = true)
    (h1 : LE Phi X G b W m1 e1) (h : LA Phi X G b W ms (e :: es)) : LE Phi X G b W (.meth c f m1 ms) (.Call (.Attribute e1 nm apos) (e :: es) [] pos) := by
  obtain ⟨a, fd, ps, F', hb, hm⟩ := F.ex
  refine PE.imp (pe_methS h1 (T.cls c F.has) hm F' hr hb (fun σ => passAt tk σ) h ho hs hn hl) fun σ H Q h => ?_
  unfold tMethS
  refine tE_mono (tE_one (P := fun env x w1 Q E => onOb w1 x.d fun p ob => ob.c = c ∧ levs Phi ms env w1 (fun rs w2 => Phi f (x.d :: rs.map (·.d)) w2 (fun d w3 => Q (fr d) w3) E) E) (tE_imp h fun env w Q E q => by simp only [lev] at q; exact q)) fun x H1 q => ?_
  obtain ⟨g, ts, env, r, w1, Q0, E0, hh, rfl, q, hx⟩ := q
  obtain ⟨p, ob, hd, hw, hc, q⟩ := onOb_some q
  have e0 := hh.rep0
  rw [hd] at e0
  obtain ⟨dx, fs, h1, h2⟩ := meth_ins T hh.sim hw F.nofd
  rw [hc] at h1
  refine ⟨p, dx, fs, e0.obj_of, h1, h2, ?_⟩
  refine ⟨g, ts ++ [r], env, w1, _, E0, hh.sim, q, fun rs w2 g2 H2 q2 S2 k2 => ?_, hx.app⟩
  rw [List.append_assoc] at S2
  have kk : Keeps g g2 ts.length := fun j hj => k2 j (by simp; omega)
  have e : g.v (.tm ts.length) :: hands g2 (ts ++ [r]).length rs.length = hands g2 ts.length ([r] ++ rs).length := by
    show _ = g2.v (.tm ts.length) :: hands g2 (ts.length + 1) rs.length
    rw [k2 ts.length (by simp)]
    simp
  rw [e]
  exact call_ok S2 q2 (fun d w' g3 H' q' S3 k3 => hh.fin _ w' g3 H' q' S3 fun j hj => (k3 j hj).trans (kk j hj)) fun x w' g3 H' q' S3 => hx x w' g3 H' q' S3
theorem le_meth0 {n : Nat} {c : Cl} {f : Fn} {nm : Str} (T : CTx G X) (tk : Takes X W) (hr : Room n X.A) (F : MethAt Phi X G n c f nm) (ho : simple e1 = true) (hl : (apos.endLine == pos.line) = true)
    (h1 : LE Phi X G b W m1 e1) : LE Phi X G b W (.meth c f m1 .nil) (.Call (.Attribute e1 nm apos) [] [] pos) := by
  obtain ⟨a, fd, ps, F', hb, hm⟩ := F.ex
  refine PE.imp (pe_methS0 h1 (T.cls c F.has) hm F' hr hb (fun σ => passAt tk σ) ho hl) fun σ H Q h => ?_
  unfold tMethS
  refine tE_mono (tE_one (P := fun env x w1 Q E => onOb w1 x.d fun p ob => ob.c = c ∧ Phi f [x.d] w1 (fun d w3 => Q (fr d) w3) E) (tE_imp h fun env w Q E q => by simp only [lev, levs] at q; exact q)) fun x H1 q => ?_
  obtain ⟨g, ts, env, r, w1, Q0, E0, hh, rfl, q, hx⟩ := q
  obtain ⟨p, ob, hd, hw, hc, q⟩ := onOb_some q
  have e0 := hh.rep0
  rw [hd] at e0
  obtain ⟨dx, fs, h1, h2⟩ := meth_ins T hh.sim hw F.nofd
  rw [hc] at h1
  exact ⟨p, dx, fs, e0.obj_of, h1, h2, call_ok (us := [r]) hh.sim q (fun d w' g3 H' q' S3 k3 => hh.fin _ w' g3 H' q' S3 k3) fun x w' g3 H' q' S3 => hx x w' g3 H' q' S3⟩
end
end LL
end
section
set_option Elab.async false
set_option linter.all false
set_option maxRecDepth 100000
/-! LCall3: new objects. -/
namespace LL
open PySem L2
section
variable {Fn : Type} {Phi : Fn → LSp} {X : Cx} {G : SG} {b : Bs} {W : WX}
variable {e e1 e2 e3 : Expr} {m m1 m2 m3 : ME Fn} {pos p1 p2 apos cpos : Pos}
theorem plc_put {env : Env} {ts : List R} {w : Wd} {p : Nat} {o : Ob} {x : Pl} (h : ∀ f, x ≠ .fd p f) : plc env ts (w.put p o) x = plc env ts w x := by
  cases x with
  | sl i => rfl
  | tm i => rfl
  | fd q f =>
    have : q ≠ p := fun z => h f (by rw [z])
    simp only [plc, Wd.put_ne this]
theorem Sim.newOb {g : Gh} {ts : List R} {env : Env} {w : Wd} {σ : St} {H : Hp} (S : Sim G b g ts env w σ H) {x dx : Addr} {c : Cl} (hx : H x = none) (hd : H dx = none) (hne : dx ≠ x) (hc : G.hc c = true) :
    Sim G b g ts env (w.put x ⟨c, []⟩) σ (upd (upd H dx (.own x)) x (.ins (G.ca c) dx [])) := by
  have wx : w x = none := by
    cases e : w x with
    | none => rfl
    | some o =>
      obtain ⟨dx', h1, _⟩ := S.ins x o e
      rw [hx] at h1; cases h1
  have s : Same H (upd (upd H dx (.own x)) x (.ins (G.ca c) dx [])) := (same_upd hd).trans (same_upd (by rw [upd_ne (Ne.symm hne)]; exact hx))
  have pl : ∀ y p, plc env ts (w.put x ⟨c, []⟩) y = some p → plc env ts w y = some p := by
    intro y p e
    by_cases h : ∃ f, y = .fd x f
    · obtain ⟨f, rfl⟩ := h
      simp only [plc, Wd.put_same] at e
      cases e
    · rw [plc_put fun f z => h ⟨f, z⟩] at e
      exact e
  have S1 := S.same s
  refine ⟨fun y p e => S1.rep y p (pl y p e), S1.sig, fun y z p q e1 e2 => S1.dj y z p q (pl y p e1) (pl z q e2), fun p o e => ?_, fun y p n e => S1.yg y p n (pl y p e), fun q f p e => S1.yf q f p (pl _ p e), fun p o e => ?_, S1.fr, S1.gr, S1.len, fun y p n e => S1.yp y p n (pl y p e), fun x p q f pq n e y e2 => S1.fy x p q f pq n (pl x p e) y (pl _ pq e2)⟩
  · by_cases h : p = x
    · subst h
      rw [Wd.put_same] at e
      have e := Option.some.inj e
      subst e
      exact ⟨dx, upd_same, List.nodup_nil, hc⟩
    · rw [Wd.put_ne h] at e
      exact S1.ins p o e
  · by_cases h : p = x
    · subst h
      exact .inr (S.gr p hx)
    · rw [Wd.put_ne h] at e
      exact S1.yo p o e
theorem call_ok' {g : Gh} {ts us : List R} {env : Env} {w : Wd} {σ : St} {H : Hp} {Q : L2.VK} {E : XK} {S : LSp} {Q0 : D → Wd → Prop} {E0 : Ex → Wd → Prop} {p : Nat}
    (Si : Sim G b g (ts ++ us) env w σ H) (q : S (.obj p :: us.map (·.d)) w Q0 E0)
    (hq : ∀ d w' g2 H', Q0 d w' → Sim G b g2 (ts ++ [fr d]) env w' σ H' → Keeps g g2 ts.length → Q (g2.v (.tm ts.length)) H')
    (hx : ∀ x w' g2 H', E0 x w' → Sim G b g2 ts env w' σ H' → E (.ref (G.xc x)) none H') : liftSp G S (.ref p :: hands g ts.length us.length) H Q E := by
  have hl : (V.ref p :: hands g ts.length us.length).length = (D.obj p :: us.map (·.d)).length := by simp [hands_length]
  obtain ⟨g1, k1, S1⟩ := Si.enter (vs := V.ref p :: hands g ts.length us.length) (ds := D.obj p :: us.map (·.d)) hl (by
    intro i v d e1 e2
    cases i with
    | zero =>
      have e1 := Option.some.inj e1
      have e2 := Option.some.inj e2
      subst e1; subst e2
      exact ⟨[], .obj p, fun _ m => nomatch m⟩
    | succ i =>
      have e1 : (hands g ts.length us.length)[i]? = some v := e1
      have e2 : (us.map (·.d))[i]? = some d := e2
      obtain ⟨hi, rfl⟩ := hands_get' e1
      rw [List.getElem?_map] at e2
      cases hu : us[i]? with
      | none => rw [hu] at e2; cases e2
      | some r =>
        rw [hu] at e2
        have e2 := Option.some.inj e2
        subst e2
        have hp : plc env (ts ++ us) w (.tm (ts.length + i)) = some (.rr r) := by
          show (ts ++ us)[ts.length + i]?.map PV.rr = _
          rw [List.getElem?_append_right (Nat.le_add_right _ _), Nat.add_sub_cancel_left, hu]; rfl
        refine ⟨g.F (.tm (ts.length + i)), Si.rep _ _ hp, fun a ma p f x ep own m2 => ?_⟩
        exact Si.dj (.fd p f) (.tm (ts.length + i)) (.pc x) (.rr r) ep hp own ⟨(fun z => by cases z), fun ⟨_, _, _, z, _⟩ => by cases z⟩ a m2 ma)
  have Sd := Si.drop
  refine ⟨_, w, g1, Q0, E0, S1, hl, q, fun d w' g' H' q' S' => ?_, fun x w' g' H' q' S' => ?_⟩
  · obtain ⟨g2, kp, kv, S2⟩ := Sd.leave (fun p f => (k1 p f).2) S' (by intro r m; rw [List.mem_singleton.mp m]; rfl)
    have := hq d w' g2 H' q' S2 kp
    have e := kv 0
    rw [Nat.add_zero] at e
    rw [e] at this
    exact this
  · obtain ⟨g2, kp, kv, S2⟩ := Sd.leave (fun p f => (k1 p f).2) S' (by intro r m; cases m)
    rw [List.append_nil] at S2
    exact hx x w' g2 H' q' S2
theorem le_new {n : Nat} {c : Cl} {f : Fn} {nm : Str} {ms : MEs Fn} {es : List Expr} (hr : Room (n + 1) X.A) (F : NewAt Phi X G n c f nm) (hg : Gl X nm) (hdb : (nm == ("__debug__" : Str)) = false) (hs : simples (e :: es) = true) (h : LA Phi X G b W ms (e :: es)) :
    LE Phi X G b W (.new c f ms) (.Call (.Name nm p1) (e :: es) [] pos) := by
  obtain ⟨a, fd, ps, F', hb, M, hm⟩ := F.ex
  have h1 : simple e = true := by simp [simples] at hs; exact hs.1
  have h2 : simples es = true := by simp only [simples, List.all_cons, Bool.and_eq_true] at hs; exact hs.2
  refine PE.imp (pe_make M F' hr hg hm hb (dvs := []) .nil (E := E0) passL h hdb (simple_star h1 _ _) (simples_any h2 _ _)) fun σ H Q h => ?_
  refine tA_mono (tA_all (P := fun _ rs w1 Q E => ∀ p, w1 p = none → Phi f (.obj p :: rs.map (·.d)) (w1.put p ⟨c, []⟩) (fun d w2 => d = .non ∧ Q (sc (.obj p)) w2) (fun _ _ => False)) (tE_imp h fun env w Q E q => by simp only [lev] at q; exact q)) fun xs H1 q => ?_
  obtain ⟨g, ts, env, rs, w1, Q0, E1, hh, rfl, q, hx⟩ := q
  intro x dx nx nd ne
  have wx : w1 x = none := by
    cases e : w1 x with
    | none => rfl
    | some o =>
      obtain ⟨dx', h1, _⟩ := hh.sim.ins x o e
      rw [nx] at h1; cases h1
  rw [List.append_nil]
  refine call_ok' (hh.sim.newOb nx nd ne F.has) (q x wx) (fun d w' g2 H' q' S2 k2 => ?_) fun x w' g2 H' q' S2 => q'.elim
  obtain ⟨hd, q'⟩ := q'
  have hr : FRep G H' (g2.v (.tm ts.length)) d (g2.F (.tm ts.length)) := by
    refine S2.rep (.tm ts.length) (.rr (fr d)) ?_
    show (ts ++ [fr d])[ts.length]?.map PV.rr = _
    rw [List.getElem?_append_right (Nat.le_refl _), Nat.sub_self]; rfl
  refine ⟨?_, ?_⟩
  · have h := non_iff hr
    rw [hd] at h
    exact of_decide_eq_true h
  · have S3 : Sim G b (g2.put (.tm ts.length) (.ref x) []) (ts ++ [sc (.obj x)]) env w' σ H' := S2.push (r := sc (.obj x)) (.obj x) fun _ m => nomatch m
    have := hh.fin (sc (.obj x)) w' _ H' q' S3 fun j hj => by
      rw [Gh.put_v' (by intro z; have := Pl.tm.inj z; omega)]
      exact k2 j hj
    rw [Gh.put_v] at this
    exact this
end
end LL
end
section
set_option Elab.async false
set_option linter.all false
set_option maxRecDepth 100000
/-! LComp: list comprehensions. -/
namespace LL
open PySem L2
section
variable {G : SG} {b : Bs} {g : Gh} {ts us : List R} {env : Env} {w : Wd} {σ : St} {H : Hp}
theorem set_get {α : Type} {l : List α} {i j : Nat} {z y : α} (h : (l.set i z)[j]? = some y) : (j = i ∧ y = z ∧ i < l.length) ∨ (j ≠ i ∧ l[j]? = some y) := by
  by_cases e : i = j
  · subst e
    have hl : i < l.length := by
      have := (List.getElem?_eq_some_iff.mp h).1
      simpa using this
    rw [List.getElem?_set_self hl] at h
    exact .inl ⟨rfl, (Option.some.inj h).symm, hl⟩
  · rw [List.getElem?_set_ne e] at h
    exact .inr ⟨fun z => e z.symm, h⟩
theorem plc_sl_some {x : PV} {i : Nat} (h : plc env ts w (.sl i) = some x) : ∃ pc, x = .pc pc ∧ env[i]? = some (some pc) := by
  simp only [plc] at h
  cases he : env[i]? with
  | none => rw [he] at h; cases h
  | some o =>
    cases o with
    | none => rw [he] at h; cases h
    | some pc => rw [he] at h; exact ⟨pc, (Option.some.inj h).symm, rfl⟩
/-- a value into a slot -/
theorem Sim.setVal (S : Sim G b g ts env w σ H) {i : Nat} {v : V} {d : D} {F : List Addr} {y : Bool} (h : FRep G H v d F) (c1 : ∀ a ∈ F, ∀ x p, plc env ts w x = some p → x ≠ .sl i → p.own = true → a ∉ g.F x)
    (c2 : y = true → ∀ a ∈ F, b.H0 a = none ∧ ∀ q f pq, plc env ts w (.fd q f) = some pq → a ∉ g.F (.fd q f)) (c3 : ∀ a ∈ F, b.H0 a = none ∨ b.P0 a ∨ b.M0 a ∨ b.X0 a) : Sim G b (g.put (.sl i) v F) ts (env.set i (some (.val d y))) w (σ.set i (some v)) H := by
  have src : ∀ x p, plc (env.set i (some (.val d y))) ts w x = some p → (x = .sl i ∧ p = .pc (.val d y)) ∨ (x ≠ .sl i ∧ plc env ts w x = some p) := by
    intro x p e
    cases x with
    | tm k => exact .inr ⟨(by intro z; cases z), e⟩
    | fd q f => exact .inr ⟨(by intro z; cases z), e⟩
    | sl j =>
      obtain ⟨pc, rfl, he⟩ := plc_sl_some e
      rcases set_get he with ⟨e1, e2, _⟩ | ⟨e1, e2⟩
      · subst e1
        have := Option.some.inj e2
        subst this
        exact .inl ⟨rfl, rfl⟩
      · exact .inr ⟨fun z => e1 (Pl.sl.inj z), plc_sl e2⟩
  refine ⟨fun x p e => ?_, fun j x e => ?_, fun x z p q e1 e2 own ap a m => ?_, fun p o e => ?_, fun x p n e yy a m => ?_, fun q f p e a m => ?_, S.yo, S.fr, S.gr, by simp [S.len], fun x p n e a m => ?_, fun x p q f pq n e yy e2 a m => ?_⟩
  · rcases src x p e with ⟨rfl, rfl⟩ | ⟨n, e'⟩
    · rw [Gh.put_v, Gh.put_F]; exact h
    · rw [Gh.put_v' n, Gh.put_F' n]; exact S.rep x p e'
  · rcases set_get e with ⟨e1, e2, e3⟩ | ⟨e1, e2⟩
    · subst e1
      rw [Gh.put_v, List.getElem?_set_self (by rw [← S.len]; exact e3)]
    · rw [Gh.put_v' (fun z => e1 (Pl.sl.inj z)), List.getElem?_set_ne (Ne.symm e1)]
      exact S.sig j x e2
  · rcases src x p e1 with ⟨rfl, rfl⟩ | ⟨n1, f1⟩
    · cases own
    · rw [Gh.put_F' n1] at m
      rcases src z q e2 with ⟨rfl, rfl⟩ | ⟨n2, f2⟩
      · rw [Gh.put_F]
        intro m2
        exact c1 a m2 x p f1 n1 own m
      · rw [Gh.put_F' n2]
        exact S.dj x z p q f1 f2 own ap a m
  · obtain ⟨dx, h1, h2⟩ := S.ins p o e
    exact ⟨dx, h1, h2⟩
  · rcases src x p e with ⟨rfl, rfl⟩ | ⟨n1, f1⟩
    · rw [Gh.put_F] at m; exact (c2 yy a m).1
    · rw [Gh.put_F' n1] at m; exact S.yg x p n f1 yy a m
  · rw [Gh.put_F' (by intro z; cases z)] at m
    exact S.yf q f p e a m
  · rcases src x p e with ⟨rfl, rfl⟩ | ⟨n1, f1⟩
    · rw [Gh.put_F] at m; exact c3 a m
    · rw [Gh.put_F' n1] at m; exact S.yp x p n f1 a m
  · rw [Gh.put_F' (by intro z; cases z)]
    have e2' : plc env ts w (.fd q f) = some pq := e2
    rcases src x p e with ⟨rfl, rfl⟩ | ⟨n1, f1⟩
    · rw [Gh.put_F] at m; exact (c2 yy a m).2 q f pq e2'
    · rw [Gh.put_F' n1] at m; exact S.fy x p q f pq n f1 yy e2' a m
/-- a slot forgotten -/
theorem Sim.unset (S : Sim G b g ts env w σ H) (i : Nat) : Sim G b g ts (env.set i none) w (σ.set i none) H := by
  refine S.weak (fun x p e => ?_) (fun j x e => ?_) (fun _ _ e => e) (by simp [S.len])
  · cases x with
    | tm k => exact e
    | fd q f => exact e
    | sl j =>
      obtain ⟨pc, rfl, he⟩ := plc_sl_some e
      rcases set_get he with ⟨e1, e2, _⟩ | ⟨e1, e2⟩
      · cases e2
      · exact plc_sl e2
  · rcases set_get e with ⟨e1, e2, _⟩ | ⟨e1, e2⟩
    · cases e2
    · rw [List.getElem?_set_ne (Ne.symm e1)]
      exact S.sig j x e2

/-! ### a list being made, kept apart -/
def bD (b : Bs) (D : Addr) (acc : List V) : Bs where
  H0 := fun a => if a = D then some (.lst acc) else b.H0 a
  M0 := fun a => b.M0 a ∧ a ≠ D
  X0 := fun a => b.X0 a ∧ a ≠ D
  P0 := fun a => b.P0 a ∧ a ≠ D
theorem bD_none {D : Addr} {acc : List V} {a : Addr} : (bD b D acc).H0 a = none ↔ a ≠ D ∧ b.H0 a = none := by
  unfold bD
  by_cases h : a = D
  · simp [h]
  · simp [h]
theorem Sim.startD (S : Sim G b g ts env w σ H) {D : Addr} (hD : H D = none) : Sim G (bD b D []) g ts env w σ (upd H D (.lst [])) := by
  have s := same_upd (o := .lst []) hD
  have S1 := S.same s
  have ne : ∀ x p, plc env ts w x = some p → ∀ a ∈ g.F x, a ≠ D := fun x p e a m z => (S.rep x p e).cells a m (by rw [z]; exact hD)
  refine ⟨S1.rep, S1.sig, S1.dj, S1.ins, fun x p n e yy a m => bD_none.mpr ⟨ne x p e a m, S.yg x p n e yy a m⟩, fun q f p e a m => ?_, fun p o e => ?_, fun a o e n => ?_, fun a e => ?_, S.len, fun x p n e a m => ?_, S.fy⟩
  · have h := ne _ p e a m
    rcases S.yf q f p e a m with z | z | ⟨z, z2⟩
    · exact .inl (bD_none.mpr ⟨h, z⟩)
    · exact .inr (.inl ⟨z, h⟩)
    · exact .inr (.inr ⟨⟨z, h⟩, z2⟩)
  · have h : p ≠ D := by
      obtain ⟨dx, h1, _⟩ := S.ins p o e
      intro z
      rw [z, hD] at h1; cases h1
    rcases S.yo p o e with z | z
    · exact .inl ⟨z, h⟩
    · exact .inr (bD_none.mpr ⟨h, z⟩)
  · by_cases h : a = D
    · subst h
      rw [upd_same]
      have e' : (if a = a then some (HO.lst []) else b.H0 a) = some o := e
      rw [if_pos rfl] at e'
      exact e'
    · rw [upd_ne h]
      have e' : (if a = D then some (HO.lst []) else b.H0 a) = some o := e
      rw [if_neg h] at e'
      exact S.fr a o e' fun z => n ⟨z, h⟩
  · have h : a ≠ D := fun z => by rw [z, upd_same] at e; cases e
    rw [upd_ne h] at e
    exact bD_none.mpr ⟨h, S.gr a e⟩
  · have h := ne _ p e a m
    rcases S.yp x p n e a m with z | z | z | z
    · exact .inl (bD_none.mpr ⟨h, z⟩)
    · exact .inr (.inl ⟨z, h⟩)
    · exact .inr (.inr (.inl ⟨z, h⟩))
    · exact .inr (.inr (.inr ⟨z, h⟩))
theorem Sim.notD {D : Addr} {acc : List V} (S : Sim G (bD b D acc) g ts env w σ H) : ∀ x p, plc env ts w x = some p → ∀ a ∈ g.F x, a ≠ D := by
  intro x p e a m
  by_cases h : ∃ q f, x = .fd q f
  · obtain ⟨q, f, rfl⟩ := h
    rcases S.yf q f p e a m with z | z | ⟨z, _⟩
    · exact (bD_none.mp z).1
    · exact z.2
    · exact z.2
  · rcases S.yp x p (fun q f z => h ⟨q, f, z⟩) e a m with z | z | z | z
    · exact (bD_none.mp z).1
    · exact z.2
    · exact z.2
    · exact z.2
theorem Sim.atD {D : Addr} {acc : List V} (S : Sim G (bD b D acc) g ts env w σ H) : H D = some (.lst acc) :=
  S.fr D (.lst acc) (by show (if D = D then _ else _) = _; rw [if_pos rfl]) fun z => z.2 rfl
theorem Sim.bumpD {D : Addr} {acc acc' : List V} (S : Sim G (bD b D acc) g ts env w σ H) : Sim G (bD b D acc') g ts env w σ (upd H D (.lst acc')) := by
  have hD := S.atD
  have evo : Evo H (upd H D (.lst acc')) := fun a o e i => by
    have : a ≠ D := fun z => by rw [z, hD] at e; cases e; exact i
    rw [upd_ne this]; exact e
  have tr : ∀ a, (bD b D acc).H0 a = none → (bD b D acc').H0 a = none := fun a h => bD_none.mpr (bD_none.mp h)
  refine ⟨fun x p e => (S.rep x p e).stay evo fun a m => upd_ne (S.notD x p e a m), S.sig, S.dj, fun p o e => ?_, fun x p n e yy a m => tr a (S.yg x p n e yy a m), fun q f p e a m => ?_, fun p o e => ?_, fun a o e n => ?_, fun a e => ?_, S.len, fun x p n e a m => ?_, S.fy⟩
  · obtain ⟨dx, h1, h2⟩ := S.ins p o e
    refine ⟨dx, ?_, h2⟩
    have : p ≠ D := fun z => by rw [z, hD] at h1; cases h1
    rw [upd_ne this]; exact h1
  · rcases S.yf q f p e a m with z | z | z
    · exact .inl (tr a z)
    · exact .inr (.inl z)
    · exact .inr (.inr z)
  · rcases S.yo p o e with z | z
    · exact .inl z
    · exact .inr (tr p z)
  · by_cases h : a = D
    · subst h
      rw [upd_same]
      have e' : (if a = a then some (HO.lst acc') else b.H0 a) = some o := e
      rw [if_pos rfl] at e'
      exact e'
    · rw [upd_ne h]
      have e' : (if a = D then some (HO.lst acc') else b.H0 a) = some o := e
      rw [if_neg h] at e'
      exact S.fr a o (by show (if a = D then _ else b.H0 a) = _; rw [if_neg h]; exact e') n
  · have h : a ≠ D := fun z => by rw [z, upd_same] at e; cases e
    rw [upd_ne h] at e
    exact tr a (S.gr a e)
  · rcases S.yp x p n e a m with z | z
    · exact .inl (tr a z)
    · exact .inr z
theorem Sim.endD {D : Addr} {acc : List V} (S : Sim G (bD b D acc) g ts env w σ H) (h0 : b.H0 D = none) : Sim G b g ts env w σ H ∧ Fresh b g ts env w D := by
  have tr : ∀ a, (bD b D acc).H0 a = none → b.H0 a = none := fun a h => (bD_none.mp h).2
  refine ⟨⟨S.rep, S.sig, S.dj, S.ins, fun x p n e yy a m => tr a (S.yg x p n e yy a m), fun q f p e a m => ?_, fun p o e => ?_, fun a o e n => ?_, fun a e => tr a (S.gr a e), S.len, fun x p n e a m => ?_, S.fy⟩, h0, fun x p e m => S.notD x p e D m rfl⟩
  · rcases S.yf q f p e a m with z | z | z
    · exact .inl (tr a z)
    · exact .inr (.inl z.1)
    · exact .inr (.inr ⟨z.1.1, z.2⟩)
  · rcases S.yo p o e with z | z
    · exact .inl z.1
    · exact .inr (tr p z)
  · have h : a ≠ D := fun z => by rw [z, h0] at e; cases e
    exact S.fr a o (by show (if a = D then _ else b.H0 a) = _; rw [if_neg h]; exact e) fun z => n z.1
  · rcases S.yp x p n e a m with z | z | z | z
    · exact .inl (tr a z)
    · exact .inr (.inl z.1)
    · exact .inr (.inr (.inl z.1))
    · exact .inr (.inr (.inr z.1))
end
end LL
end
section
set_option Elab.async false
set_option linter.all false
set_option maxRecDepth 100000
/-! LComp2: list comprehensions, the rules. -/
namespace LL
open PySem L2
abbrev WF : WX := fun _ _ _ _ => False
def tQ (G : SG) (b : Bs) (W : WX) (τ : Env → Wd → VK → XKd → Prop) : TT := fun σ H Q => tE G b W τ σ H fun x H' => ∃ k, TruV G.K x H' k ∧ Q k H'
theorem hands_snoc {g : Gh} : ∀ (k n : Nat), hands g n (k + 1) = hands g n k ++ [g.v (.tm (n + k))]
  | 0, n => rfl
  | k + 1, n => by
    show g.v (.tm n) :: hands g (n + 1) (k + 1) = g.v (.tm n) :: (hands g (n + 1) k ++ _)
    rw [hands_snoc k (n + 1), show n + 1 + k = n + (k + 1) by omega]
theorem filterMap_le {α β : Type} (f : α → Option β) : ∀ l : List α, (l.filterMap f).length ≤ l.length
  | [] => Nat.le_refl _
  | a :: l => by
    rw [List.filterMap_cons]
    have := filterMap_le f l
    split <;> simp <;> omega
section
variable {Fn : Type} {Phi : Fn → LSp} {G : SG} {b : Bs} {g0 : Gh} {T : List R} {env : Env} {w : Wd} {σ : St}
structure CI (G : SG) (b : Bs) (D0 : Addr) (g0 : Gh) (T : List R) (env : Env) (w : Wd) (σ : St) (gg : Nat → Option D) (m : Nat) (H : Hp) (g' : Gh) (accs : List R) : Prop where
  sim : Sim G (bD b D0 (hands g' T.length accs.length)) g' (T ++ accs) env w σ H
  keep : Keeps g0 g' T.length
  outs : accs.map (·.d) = (List.range m).filterMap gg
  flags : ∀ a ∈ accs, a.zz = true ∧ a.yy = true
theorem comp_loop {J : It} {n i : Nat} {D0 : Addr} {H1 : Hp} {it : Nat → D} {yf : Bool} {gg : Nat → Option D} {elt c : ME Fn} {tt : TT} {te : TE} {Qd : Hp → Prop} (hn : n ≤ top)
    (walk : ∀ m H g' accs, m < n → CI G b D0 g0 T (env.set i none) w (σ.set i none) gg m H g' accs → J.go m H ∧ ∀ x H', J.yld m H x H' → H' = H ∧ ∃ F, FRep G H x (it m) F ∧
      (∀ a ∈ F, ∀ y p, plc (env.set i none) (T ++ accs) w y = some p → p.own = true → a ∉ g'.F y) ∧ (yf = true → F = []) ∧
      (∀ a ∈ F, (bD b D0 (hands g' T.length accs.length)).H0 a = none ∨ (bD b D0 (hands g' T.length accs.length)).P0 a ∨ (bD b D0 (hands g' T.length accs.length)).M0 a ∨ (bD b D0 (hands g' T.length accs.length)).X0 a))
    (stop : ∀ H g' accs, CI G b D0 g0 T (env.set i none) w (σ.set i none) gg n H g' accs → J.stop n H)
    (body : ∀ m, m < n → lev Phi c (env.set i (some (.val (it m) yf))) w (fun b w2 => w2 = w ∧ b.d.onBl fun t =>
      (t = true → lev Phi elt (env.set i (some (.val (it m) yf))) w (fun r w3 => w3 = w ∧ r.zz = true ∧ r.yy = true ∧ gg m = some r.d) (fun _ _ => False)) ∧ (t = false → gg m = none)) (fun _ _ => False))
    (htt : ∀ b' σ H Q, tQ G b' WF (lev Phi c) σ H Q → tt σ H Q) (hte : ∀ b' σ H Q, tE G b' WF (lev Phi elt) σ H Q → te σ H Q)
    (S0 : Sim G (bD b D0 []) g0 T (env.set i none) w (σ.set i none) (upd H1 D0 (.lst []))) (hd : ∀ H g' accs, CI G b D0 g0 T (env.set i none) w (σ.set i none) gg n H g' accs → Qd H) :
    ∃ W : Nat → Nat → Hp → Prop, (∃ m, W 0 m (upd H1 D0 (.lst []))) ∧ ∀ k m H, W k m H → (J.stop k H ∧ Qd H) ∨ (J.go k H ∧ ∃ Nx : Hp → Prop, (∀ H', Nx H' → ∃ m', m' < m ∧ W (k + 1) m' H') ∧ ∀ x H', J.yld k H x H' →
      gName i x (wipe σ [i]) H' fun σ2 H2 => wipe σ2 [i] = wipe σ [i] ∧ tt σ2 H2 fun b H3 => if b = true then te σ2 H3 fun y H4 => ∃ acc, H4 D0 = some (.lst acc) ∧ acc.length < sizeLine ∧ Nx (upd H4 D0 (.lst (acc ++ [y]))) else Nx H3) := by
  have hs : env.set i none = env.set i none := rfl
  refine ⟨fun k m H => m = n - k ∧ k ≤ n ∧ ∃ g' accs, CI G b D0 g0 T (env.set i none) w (σ.set i none) gg k H g' accs, ⟨n, by simp, Nat.zero_le _, g0, [], ⟨by simpa [hands] using S0, fun _ _ => rfl, rfl, fun a m => nomatch m⟩⟩, ?_⟩
  rintro k m H ⟨rfl, hk, g', accs, C⟩
  by_cases hlt : k < n
  · obtain ⟨hgo, hy⟩ := walk k H g' accs hlt C
    refine .inr ⟨hgo, fun H' => ∃ g' accs, CI G b D0 g0 T (env.set i none) w (σ.set i none) gg (k + 1) H' g' accs, fun H' h => ⟨n - (k + 1), by omega, rfl, by omega, h⟩, fun x H' y => ?_⟩
    obtain ⟨rfl, F, hF, c1, c2, c3⟩ := hy x H' y
    have S1 := C.sim.setVal (y := yf) (i := i) hF (fun a m y p e _ o => c1 a m y p e o) (fun z a m => by rw [c2 z] at m; cases m) c3
    rw [List.set_set, List.set_set] at S1
    have hlen : accs.length ≤ k := by
      have h1 := congrArg List.length C.outs
      rw [List.length_map] at h1
      have h2 := filterMap_le gg (List.range k)
      rw [List.length_range] at h2
      omega
    have hkeep : ∀ j, j < T.length + accs.length → (g'.put (.sl i) x F).v (.tm j) = g'.v (.tm j) := fun j _ => Gh.put_v' (by intro z; cases z)
    show wipe ((wipe σ [i]).set i (some x)) [i] = wipe σ [i] ∧ tt ((wipe σ [i]).set i (some x)) H' _
    have e1 : (wipe σ [i]).set i (some x) = σ.set i (some x) := by show (σ.set i none).set i (some x) = _; rw [List.set_set]
    have e2 : wipe (σ.set i (some x)) [i] = wipe σ [i] := by show (σ.set i (some x)).set i none = σ.set i none; rw [List.set_set]
    rw [e1]
    refine ⟨e2, htt (bD b D0 (hands g' T.length accs.length)) _ _ _ ?_⟩
    refine ⟨_, _, _, _, _, _, S1, body k hlt, fun rb w' g1 H3 q1 S3 k1 => ?_, fun x w' g' H' z => z.elim⟩
    obtain ⟨rfl, q1⟩ := q1
    obtain ⟨t, ht, q1⟩ := onBl_some q1
    have hb : g1.v (.tm (T ++ accs).length) = .bl t := by
      have := S3.rep (.tm (T ++ accs).length) (.rr rb) (by show ((T ++ accs) ++ [rb])[(T ++ accs).length]?.map PV.rr = _; rw [List.getElem?_append_right (Nat.le_refl _), Nat.sub_self]; rfl)
      have this : FRep G H3 _ rb.d _ := this
      rw [ht] at this
      exact this.bl_of
    have hands1 : hands g1 T.length accs.length = hands g' T.length accs.length := hands_keep _ _ fun j h1 h2 => by
      rw [k1 j (by simp; omega)]
      exact hkeep j h2
    refine ⟨t, by rw [hb]; exact rfl, ?_⟩
    have unslot : ∀ {g1 : Gh} {H3 : Hp} {us : List R} {v : V} {acc : List V}, Sim G (bD b D0 acc) g1 us (env.set i (some (.val (it k) yf))) w' (σ.set i (some v)) H3 → Sim G (bD b D0 acc) g1 us (env.set i none) w' (σ.set i none) H3 := fun S => by
      have := S.unset i
      rw [List.set_set, List.set_set] at this
      exact this
    cases t with
    | false =>
      refine iteF ⟨g1, accs, ?_, fun j hj => ?_, ?_, C.flags⟩
      · rw [hands1]; exact unslot S3.drop
      · rw [k1 j (by simp; omega), hkeep j (by omega)]; exact C.keep j hj
      · rw [List.range_succ, List.filterMap_append, ← C.outs]
        simp [q1.2 rfl]
    | true =>
      refine iteT (hte (bD b D0 (hands g' T.length accs.length)) _ _ _ ⟨_, _, _, _, _, _, S3.drop, q1.1 rfl, fun r w3 g4 H4 q4 S4 k4 => ?_, fun x w' g' H' z => z.elim⟩)
      obtain ⟨rfl, z1, z2, z3⟩ := q4
      have hands4 : hands g4 T.length accs.length = hands g' T.length accs.length := (hands_keep _ _ fun j h1 h2 => k4 j (by simp; omega)).trans hands1
      refine ⟨_, S4.atD, by rw [hands_length]; have := top_line; omega, ?_⟩
      have hv : hands g' T.length accs.length ++ [g4.v (.tm (T ++ accs).length)] = hands g4 T.length (accs ++ [r]).length := by
        rw [show (accs ++ [r]).length = accs.length + 1 by simp, hands_snoc, hands4, List.length_append]
      rw [hv]
      refine ⟨g4, accs ++ [r], ?_, fun j hj => ?_, ?_, fun a m => ?_⟩
      · rw [← List.append_assoc]
        exact (unslot S4).bumpD
      · rw [k4 j (by simp; omega), k1 j (by simp; omega), hkeep j (by omega)]; exact C.keep j hj
      · rw [List.map_append, C.outs, List.range_succ, List.filterMap_append]
        simp [z3]
      · rcases List.mem_append.mp m with m | m
        · exact C.flags a m
        · rw [List.mem_singleton.mp m]; exact ⟨z1, z2⟩
  · have e : k = n := by omega
    subst e
    exact .inl ⟨stop H g' accs C, hd H g' accs C⟩
end
end LL
end
section
set_option Elab.async false
set_option linter.all false
set_option maxRecDepth 100000
/-! LComp3: list comprehensions, whole. -/
namespace LL
open PySem L2
theorem set_self {α : Type} : ∀ {l : List α} {i : Nat} {x : α}, l[i]? = some x → l.set i x = l
  | [], _, _, h => by simp at h
  | a :: l, 0, x, h => by simp at h; subst h; rfl
  | a :: l, i + 1, x, h => by
    have := set_self (l := l) (i := i) (x := x) (by simpa using h)
    simp [this]
def stash (env : Env) (i : Nat) : R := match env[i]? with
  | some (some (.val d y)) => ⟨d, true, y, false⟩
  | _ => sc .non
theorem stash_own (env : Env) (i : Nat) : (stash env i).own = false := by
  unfold stash
  split <;> rfl
theorem stash_zz (env : Env) (i : Nat) : (stash env i).zz = true := by
  unfold stash
  split <;> rfl
section
variable {Fn : Type} {Phi : Fn → LSp} {G : SG} {b : Bs} {g1 : Gh} {ts : List R} {r : R} {env : Env} {w : Wd} {σ : St} {H1 : Hp}
theorem Sim.tm_at {us : List R} {g : Gh} {H : Hp} {k : Nat} {rk : R} (S : Sim G b g us env w σ H) (h : us[k]? = some rk) : plc env us w (.tm k) = some (.rr rk) := by
  show us[k]?.map PV.rr = _
  rw [h]; rfl
theorem Sim.stashed (S : Sim G b g1 (ts ++ [r]) env w σ H1) (i : Nat) (fs : freeSlot env i) : ∃ g2, Keeps g1 g2 (ts.length + 1) ∧ (∀ d y, env[i]? = some (some (.val d y)) → g2.v (.tm (ts.length + 1)) = g1.v (.sl i)) ∧ Sim G b g2 (ts ++ [r, stash env i]) env w σ H1 := by
  have hl : (ts ++ [r]).length = ts.length + 1 := by simp
  have S' : Sim G b g1 ((ts ++ [r]) ++ []) env w σ H1 := by rw [List.append_nil]; exact S
  cases he : env[i]? with
  | none =>
    have hst : stash env i = sc .non := by unfold stash; rw [he]
    have S2 := S'.push (r := sc .non) (v := .non) (F := []) .non fun _ m => nomatch m
    rw [List.append_assoc, hl] at S2
    exact ⟨g1.put (.tm (ts.length + 1)) .non [], (fun j hj => Gh.put_v' (by intro z; have := Pl.tm.inj z; omega)), (fun d y e => by cases e), by rw [hst]; exact S2⟩
  | some o =>
    cases o with
    | none =>
      have hst : stash env i = sc .non := by unfold stash; rw [he]
      have S2 := S'.push (r := sc .non) (v := .non) (F := []) .non fun _ m => nomatch m
      rw [List.append_assoc, hl] at S2
      exact ⟨g1.put (.tm (ts.length + 1)) .non [], (fun j hj => Gh.put_v' (by intro z; have := Pl.tm.inj z; omega)), (fun d y e => by cases e), by rw [hst]; exact S2⟩
    | some pc =>
      have ho := fs pc he
      cases pc with
      | val d y =>
        have hst : stash env i = ⟨d, true, y, false⟩ := by unfold stash; rw [he]
        have hp : plc env (ts ++ [r]) w (.sl i) = some (.pc (.val d y)) := plc_sl he
        have hr : FRep G H1 (g1.v (.sl i)) d (g1.F (.sl i)) := S.rep _ _ hp
        have S2 := S'.push (r := ⟨d, true, y, false⟩) hr fun a m => .inr (.inr ⟨rfl, .sl i, .pc (.val d y), (by intro k z; cases z), by rw [List.append_nil]; exact hp, m, (by intro z; cases z), fun z => ⟨(by intro q f z; cases z), by
          have z : (y || d.nc) = true := z
          rw [nc_of_cell hr m, Bool.or_false] at z
          exact z⟩⟩)
        rw [List.append_assoc, hl] at S2
        exact ⟨g1.put (.tm (ts.length + 1)) (g1.v (.sl i)) (g1.F (.sl i)), (fun j hj => Gh.put_v' (by intro z; have := Pl.tm.inj z; omega)), fun d y e => Gh.put_v, by rw [hst]; exact S2⟩
      | _ => cases ho
theorem comp_all {J : It} {n i : Nat} {it : Nat → D} {yf : Bool} {gg : Nat → Option D} {elt c : ME Fn} {tt : TT} {te : TE} {Q : L2.VK} (hn : n ≤ top) (S1 : Sim G b g1 (ts ++ [r]) env w σ H1) (fs : freeSlot env i)
    (walk : ∀ m H g' us b', m < n → Sim G b' g' ((ts ++ [r]) ++ us) (env.set i none) w (σ.set i none) H → g'.v (.tm ts.length) = g1.v (.tm ts.length) → J.go m H ∧ ∀ x H', J.yld m H x H' → H' = H ∧ ∃ F, FRep G H x (it m) F ∧
      (∀ a ∈ F, ∀ y p, plc (env.set i none) ((ts ++ [r]) ++ us) w y = some p → p.own = true → a ∉ g'.F y) ∧ (yf = true → F = []) ∧ (∀ a ∈ F, b'.H0 a = none ∨ b'.P0 a ∨ b'.M0 a ∨ b'.X0 a))
    (stop : ∀ H g' us b', Sim G b' g' ((ts ++ [r]) ++ us) (env.set i none) w (σ.set i none) H → g'.v (.tm ts.length) = g1.v (.tm ts.length) → J.stop n H)
    (body : ∀ m, m < n → lev Phi c (env.set i (some (.val (it m) yf))) w (fun b w2 => w2 = w ∧ b.d.onBl fun t =>
      (t = true → lev Phi elt (env.set i (some (.val (it m) yf))) w (fun r w3 => w3 = w ∧ r.zz = true ∧ r.yy = true ∧ gg m = some r.d) (fun _ _ => False)) ∧ (t = false → gg m = none)) (fun _ _ => False))
    (htt : ∀ b' σ H Q, tQ G b' WF (lev Phi c) σ H Q → tt σ H Q) (hte : ∀ b' σ H Q, tE G b' WF (lev Phi elt) σ H Q → te σ H Q)
    (fin : ∀ g' H', Sim G b g' (ts ++ [fr (.lst ((List.range n).filterMap gg))]) env w σ H' → Keeps g1 g' ts.length → Q (g'.v (.tm ts.length)) H') (D0 : Addr) (hD : H1 D0 = none) :
    ∃ W : Nat → Nat → Hp → Prop, (∃ m, W 0 m (upd H1 D0 (.lst []))) ∧ ∀ k m H, W k m H → (J.stop k H ∧ Q (.ref D0) H) ∨ (J.go k H ∧ ∃ Nx : Hp → Prop, (∀ H', Nx H' → ∃ m', m' < m ∧ W (k + 1) m' H') ∧ ∀ x H', J.yld k H x H' →
      gName i x (wipe σ [i]) H' fun σ2 H2 => wipe σ2 [i] = wipe σ [i] ∧ tt σ2 H2 fun b H3 => if b = true then te σ2 H3 fun y H4 => ∃ acc, H4 D0 = some (.lst acc) ∧ acc.length < sizeLine ∧ Nx (upd H4 D0 (.lst (acc ++ [y]))) else Nx H3) := by
  obtain ⟨g2, k2, hst, S2⟩ := S1.stashed i fs
  have S3 := (S2.startD hD).unset i
  have eT : ∀ accs : List R, (ts ++ [r, stash env i]) ++ accs = (ts ++ [r]) ++ ([stash env i] ++ accs) := fun accs => by simp
  have lT : (ts ++ [r, stash env i]).length = ts.length + 2 := by simp
  refine comp_loop (b := b) (g0 := g2) (T := ts ++ [r, stash env i]) (Qd := fun H => Q (.ref D0) H) hn (fun m H g' accs hm C => ?_) (fun H g' accs C => ?_) body htt hte S3 fun H g' accs C => ?_
  · have S := C.sim
    rw [eT] at S
    have := walk m H g' _ _ hm S ((C.keep ts.length (by rw [lT]; omega)).trans (k2 ts.length (by omega)))
    rw [eT]
    exact this
  · have S := C.sim
    rw [eT] at S
    exact stop H g' _ _ S ((C.keep ts.length (by rw [lT]; omega)).trans (k2 ts.length (by omega)))
  · have atD := C.sim.atD
    obtain ⟨S, frD⟩ := C.sim.endD (S1.gr D0 hD)
    obtain ⟨F, h1, h2⟩ := hands_rep S
    rw [C.outs] at h1
    -- the slot again
    obtain ⟨g3, k3, hF3, S5, fr3⟩ : ∃ g3 : Gh, (∀ k, g3.v (.tm k) = g'.v (.tm k)) ∧ (∀ k, g3.F (.tm k) = g'.F (.tm k)) ∧ Sim G b g3 ((ts ++ [r, stash env i]) ++ accs) env w σ H ∧ Fresh b g3 ((ts ++ [r, stash env i]) ++ accs) env w D0 := by
      cases he : env[i]? with
      | none =>
        have e1 : env.set i none = env := List.set_eq_of_length_le (List.getElem?_eq_none_iff.mp he)
        have e2 : σ.set i none = σ := List.set_eq_of_length_le (by rw [← S1.len]; exact List.getElem?_eq_none_iff.mp he)
        rw [e1, e2] at S
        rw [e1] at frD
        exact ⟨g', fun _ => rfl, fun _ => rfl, S, frD⟩
      | some o =>
        have hil : i < env.length := (List.getElem?_eq_some_iff.mp he).1
        cases o with
        | none =>
          have pl : ∀ x p, plc env ((ts ++ [r, stash env i]) ++ accs) w x = some p → plc (env.set i none) ((ts ++ [r, stash env i]) ++ accs) w x = some p := fun x p e => by
            cases x with
            | tm k => exact e
            | fd q f => exact e
            | sl j =>
              obtain ⟨pc, rfl, hj⟩ := plc_sl_some e
              have hne : i ≠ j := fun z => by rw [z, hj] at he; cases he
              exact plc_sl (by rw [List.getElem?_set_ne hne]; exact hj)
          refine ⟨g', fun _ => rfl, fun _ => rfl, S.weak pl (fun j x e => ?_) (fun _ _ e => e) S1.len, frD.1, fun y p e => frD.2 y p (pl y p e)⟩
          have hne : i ≠ j := fun z => by rw [z, e] at he; cases he
          have := S.sig j x (by rw [List.getElem?_set_ne hne]; exact e)
          rw [List.getElem?_set_ne hne] at this
          exact this
        | some pc =>
          have ho := fs pc he
          cases pc with
          | val d y =>
            have hs : stash env i = ⟨d, true, y, false⟩ := by unfold stash; rw [he]
            have hk : ((ts ++ [r, stash env i]) ++ accs)[ts.length + 1]? = some (stash env i) := by
              rw [List.append_assoc, List.getElem?_append_right (by omega), Nat.add_sub_cancel_left]; rfl
            have hp := S.tm_at hk
            have hr : FRep G H (g'.v (.tm (ts.length + 1))) d (g'.F (.tm (ts.length + 1))) := by
              have := S.rep _ _ hp
              rw [hs] at this
              exact this
            have S4 := S.setVal (i := i) (y := y) hr (fun a m x p e _ own m2 => S.dj x (.tm (ts.length + 1)) p _ e hp own ⟨(fun z => by
                rw [z] at e
                rw [hp] at e
                have e := Option.some.inj e
                rw [← e] at own
                have own : (stash env i).own = true := own
                rw [stash_own] at own
                cases own), (fun ⟨_, _, r2, _, _, e2, z⟩ => by
                have := PV.rr.inj e2
                rw [← this, stash_zz] at z
                cases z)⟩ a m2 m)
              (fun yt a m => S.ygf (.tm (ts.length + 1)) _ (by intro _ _ z; cases z) hp (by rw [hs, yt]; rfl) a m) (fun a m => S.yp (.tm (ts.length + 1)) _ (by intro _ _ z; cases z) hp a m)
            have e1 : (env.set i none).set i (some (.val d y)) = env := by
              rw [List.set_set]
              exact set_self he
            have hv : g'.v (.tm (ts.length + 1)) = g1.v (.sl i) := (C.keep (ts.length + 1) (by rw [lT]; omega)).trans (hst d y he)
            have e2 : (σ.set i none).set i (some (g'.v (.tm (ts.length + 1)))) = σ := by
              rw [List.set_set, hv]
              exact set_self (S1.sig i _ he)
            rw [e1, e2] at S4
            refine ⟨_, fun k => Gh.put_v' (by intro z; cases z), fun k => Gh.put_F' (by intro z; cases z), S4, frD.1, fun y p e => ?_⟩
            by_cases hy : y = .sl i
            · subst hy
              rw [Gh.put_F]
              exact frD.2 _ _ hp
            · rw [Gh.put_F' hy]
              refine frD.2 y p ?_
              cases y with
              | tm k => exact e
              | fd q f => exact e
              | sl j =>
                obtain ⟨pc, rfl, hj⟩ := plc_sl_some e
                have hne : i ≠ j := fun z => hy (by rw [z])
                exact plc_sl (by rw [List.getElem?_set_ne hne]; exact hj)
          | _ => cases ho
    have eU : (ts ++ [r, stash env i]) ++ accs = ts ++ ([r, stash env i] ++ accs) := by simp
    rw [eU] at S5 fr3
    have S6 := S5.push (r := fr (.lst ((List.range n).filterMap gg))) (v := .ref D0) (F := D0 :: F) (.lst atD h1) fun a m => by
      rcases List.mem_cons.mp m with e | m
      · rw [e]; exact .inr (.inl fr3)
      · obtain ⟨k, rk, e1, e2, e3⟩ := h2 a m
        have hk : accs[k]? = some rk := e1
        refine .inl ⟨?_, k + 2, rk, by simpa using hk, ?_, fun _ => (C.flags rk (List.mem_of_getElem? hk)).1, fun _ => (C.flags rk (List.mem_of_getElem? hk)).2⟩
        · have : D.ncs ((List.range n).filterMap gg) = false := by
            cases e : D.ncs ((List.range n).filterMap gg) with
            | false => rfl
            | true =>
              have := h1.nc e
              rw [this] at m; cases m
          simp [R.own, fr, this]
        · rw [hF3]
          rw [lT] at e2
          rw [show ts.length + (k + 2) = ts.length + 2 + k by omega]
          exact e2
    have := fin _ H S6 fun j hj => by
      rw [Gh.put_v' (by intro z; have := Pl.tm.inj z; omega), k3, C.keep j (by rw [lT]; omega), k2 j (by omega)]
    rw [Gh.put_v] at this
    exact this
end
end LL
end
section
set_option Elab.async false
set_option linter.all false
set_option maxRecDepth 100000
/-! LComp4: list comprehensions over lists and ranges as expressions. -/
namespace LL
open PySem L2
section
variable {Fn : Type} {Phi : Fn → LSp} {X : Cx} {G : SG} {b : Bs} {W : WX}
variable {e e1 e2 e3 : Expr} {m m1 m2 m3 : ME Fn} {pos p1 p2 apos cpos : Pos}
abbrev teOf (Phi : Fn → LSp) (G : SG) (m : ME Fn) : TE := fun σ H Q => ∃ b', tE G b' WF (lev Phi m) σ H Q
def ttOf (Phi : Fn → LSp) (G : SG) (m : ME Fn) : TT := fun σ H Q => ∃ b', tQ G b' WF (lev Phi m) σ H Q
theorem comp_read {elt it c : ME Fn} {i : Nat} {σ : St} {H : Hp} {Q : L2.VK} {tt : TT} (T : CTx G X) (htt : ∀ b' σ H Q, tQ G b' WF (lev Phi c) σ H Q → tt σ H Q) (h : tE G b W (lev Phi (.comp elt i it c)) σ H Q) :
    tLc (iList X.K (tE G b W (lev Phi it))) (gName i) tt (teOf Phi G elt) [i] σ H Q := by
  obtain ⟨g, ts, env, w, Q0, E0, S, ht, hq, hx⟩ := h
  simp only [lev] at ht
  obtain ⟨fs, ht⟩ := ht
  unfold tLc iList
  refine ⟨g, ts, env, w, _, E0, S, ht, fun r w1 g1 H1 q1 S1 k1 => ?_, hx⟩
  obtain ⟨ds, hd, hz, hl, gg, hb, q⟩ := onLst_some q1
  have tmp : ∀ {us : List R}, ((ts ++ [r]) ++ us)[ts.length]? = some r := fun {us} => by
    rw [List.append_assoc, List.getElem?_append_right (Nat.le_refl _), Nat.sub_self]; rfl
  have hr : FRep G H1 (g1.v (.tm ts.length)) (.lst ds) (g1.F (.tm ts.length)) := by
    have := S1.rep _ _ (S1.tm_at (k := ts.length) (rk := r) (by rw [List.getElem?_append_right (Nat.le_refl _), Nat.sub_self]; rfl))
    have this : FRep G H1 _ r.d _ := this
    rw [hd] at this
    exact this
  obtain ⟨a, vs, F', ha, hvs, hrs, _⟩ := hr.lst_of
  refine ⟨a, ha, ⟨vs, SqL.of hvs⟩, fun D0 hD => ?_⟩
  have here : ∀ {b' : Bs} {g' : Gh} {us : List R} {env' : Env} {σ' : St} {H : Hp}, Sim G b' g' ((ts ++ [r]) ++ us) env' w1 σ' H → g'.v (.tm ts.length) = g1.v (.tm ts.length) →
      ∃ vs F', H a = some (.lst vs) ∧ FReps G H vs ds F' ∧ g'.F (.tm ts.length) = a :: F' := fun S' hv => by
    have := S'.rep _ _ (S'.tm_at tmp)
    have this : FRep G _ _ r.d _ := this
    rw [hd, hv, ha] at this
    obtain ⟨a', vs', F2, e1, e2, e3, e4⟩ := this.lst_of
    have := V.ref.inj e1
    subst this
    exact ⟨vs', F2, e2, e3, e4⟩
  refine comp_all (it := fun m => ds.getD m .non) (yf := false) (gg := gg) (elt := elt) (c := c) (n := ds.length) hl S1 fs (fun m H g' us b' hm S' hv => ?_) (fun H g' us b' S' hv => ?_) (fun m hm => ?_) htt (fun b' σ H Q q => ⟨b', q⟩) (fun g' H' S' k' => ?_) D0 hD
  · obtain ⟨vs', F2, e2, e3, e4⟩ := here S' hv
    have hdm : ds[m]? = some (ds.getD m .non) := by rw [List.getD_eq_getElem?_getD, List.getElem?_eq_getElem hm]; rfl
    obtain ⟨v, Fv, f1, f2, f3⟩ := e3.get hdm
    refine ⟨⟨vs', v, SqL.of e2, f1⟩, fun x H' y => ?_⟩
    obtain ⟨rfl, y⟩ := y
    have hx := y vs' (SqL.of e2)
    rw [f1] at hx
    have hx := Option.some.inj hx
    subst hx
    have cell : ∀ a ∈ Fv, a ∈ g'.F (.tm ts.length) := fun a m => by rw [e4]; exact List.mem_cons_of_mem _ (f3 a m)
    refine ⟨rfl, Fv, f2, fun a m y p e own m2 => ?_, (fun z => by cases z), fun a m => S'.yp (.tm ts.length) _ (by intro _ _ z; cases z) (S'.tm_at tmp) a (cell a m)⟩
    have hz' : r.z = true := by
      rcases hz with z | z
      · exact z
      · have := e3.nc z
        rw [this] at f3
        exact nomatch f3 a m
    by_cases hy : y = .tm ts.length
    · subst hy
      rw [S'.tm_at tmp] at e
      have e := Option.some.inj e
      rw [← e] at own
      have own : r.own = true := own
      unfold R.own at own
      rw [hd] at own
      have own : (r.f && r.y && D.ncs ds) = true := own
      have hn : D.ncs ds = true := by simp at own; exact own.2
      have := e3.nc hn
      rw [this] at f3
      exact nomatch f3 a m
    · exact S'.dj y (.tm ts.length) p _ e (S'.tm_at tmp) own ⟨hy, fun ⟨_, _, r2, _, _, e2, z⟩ => by
        have := PV.rr.inj e2
        rw [← this] at z
        unfold R.zz at z
        rw [hz'] at z
        cases z⟩ a m2 (cell a m)
  · obtain ⟨vs', F2, e2, e3, e4⟩ := here S' hv
    exact ⟨vs', SqL.of e2, by rw [e3.length]; exact Nat.le_refl _⟩
  · have hdm : ds[m]? = some (ds.getD m .non) := by rw [List.getD_eq_getElem?_getD, List.getElem?_eq_getElem hm]; rfl
    exact hb m _ hdm
  · exact hq _ w1 g' H' q S' fun j hj => (k' j hj).trans (k1 j hj)
theorem comp_readR {elt n c : ME Fn} {i : Nat} {σ : St} {H : Hp} {Q : L2.VK} {tt : TT} (T : CTx G X) (htt : ∀ b' σ H Q, tQ G b' WF (lev Phi c) σ H Q → tt σ H Q) (h : tE G b W (lev Phi (.compR elt i n c)) σ H Q) :
    tLc (iRng1 (tCons (tE G b W (lev Phi n)) tNil)) (gName i) tt (teOf Phi G elt) [i] σ H Q := by
  obtain ⟨g, ts, env, w, Q0, E0, S, ht, hq, hx⟩ := h
  simp only [lev] at ht
  obtain ⟨fs, ht⟩ := ht
  unfold tLc iRng1 tCons
  refine ⟨g, ts, env, w, _, E0, S, ht, fun r w1 g1 H1 q1 S1 k1 => ?_, hx⟩
  obtain ⟨k, hd, hk0, hk, hl, gg, hb, q⟩ := onInt_some q1
  have hr : FRep G H1 (g1.v (.tm ts.length)) (.int k) (g1.F (.tm ts.length)) := by
    have := S1.rep _ _ (S1.tm_at (k := ts.length) (rk := r) (by rw [List.getElem?_append_right (Nat.le_refl _), Nat.sub_self]; rfl))
    have this : FRep G H1 _ r.d _ := this
    rw [hd] at this
    exact this
  have hlen : ((List.range k.toNat).map fun m => D.int (m : Nat)).length = k.toNat := by simp
  rw [hlen] at hl q
  refine ⟨k, by rw [hr.int_of], by omega, by omega, fun D0 hD => ?_⟩
  refine comp_all (it := fun m => .int (m : Nat)) (yf := true) (gg := gg) (elt := elt) (c := c) (n := k.toNat) hl S1 fs (fun m H g' us b' hm S' hv => ?_) (fun H g' us b' S' hv => Nat.le_refl _) (fun m hm => ?_) htt (fun b' σ H Q q => ⟨b', q⟩) (fun g' H' S' k' => ?_) D0 hD
  · refine ⟨hm, fun x H' y => ?_⟩
    obtain ⟨rfl, rfl⟩ := y
    refine ⟨rfl, [], ?_, fun _ m => (nomatch m), fun _ => rfl, fun _ m => (nomatch m)⟩
    have : (0 : Int) + (m : Nat) = (m : Nat) := by simp
    rw [this]
    exact .int _
  · exact hb m _ (by rw [List.getElem?_map, List.getElem?_range hm]; rfl)
  · exact hq _ w1 g' H' q S' fun j hj => (k' j hj).trans (k1 j hj)
end
end LL
end
section
set_option Elab.async false
set_option linter.all false
set_option maxRecDepth 100000
/-! LStm1: slots and fields stored, own lists changed. -/
namespace LL
open PySem L2
section
variable {G : SG} {b : Bs} {g : Gh} {ts us : List R} {env : Env} {w : Wd} {σ : St} {H : Hp}
/-- content into a slot -/
theorem Sim.setPC (S : Sim G b g ts env w σ H) {i : Nat} {v : V} {pc : PC} {F : List Addr} (h : CRep G H v pc F) (c1 : ∀ a ∈ F, ∀ x p, plc env ts w x = some p → x ≠ .sl i → (p.own = true ∨ pc.own = true) → a ∉ g.F x)
    (c2 : (PV.pc pc).young = true → ∀ a ∈ F, b.H0 a = none ∧ ∀ q f pq, plc env ts w (.fd q f) = some pq → a ∉ g.F (.fd q f)) (c3 : ∀ a ∈ F, b.H0 a = none ∨ b.P0 a ∨ b.M0 a ∨ b.X0 a) : Sim G b (g.put (.sl i) v F) ts (env.set i (some pc)) w (σ.set i (some v)) H := by
  have src : ∀ x p, plc (env.set i (some pc)) ts w x = some p → (x = .sl i ∧ p = .pc pc) ∨ (x ≠ .sl i ∧ plc env ts w x = some p) := by
    intro x p e
    cases x with
    | tm k => exact .inr ⟨(by intro z; cases z), e⟩
    | fd q f => exact .inr ⟨(by intro z; cases z), e⟩
    | sl j =>
      obtain ⟨pc', rfl, he⟩ := plc_sl_some e
      rcases set_get he with ⟨e1, e2, _⟩ | ⟨e1, e2⟩
      · subst e1
        have := Option.some.inj e2
        subst this
        exact .inl ⟨rfl, rfl⟩
      · exact .inr ⟨fun z => e1 (Pl.sl.inj z), plc_sl e2⟩
  refine ⟨fun x p e => ?_, fun j x e => ?_, fun x z p q e1 e2 own ap a m => ?_, fun p o e => S.ins p o e, fun x p n e yy a m => ?_, fun q f p e a m => ?_, S.yo, S.fr, S.gr, by simp [S.len], fun x p n e a m => ?_, fun x p q f pq n e yy e2 a m => ?_⟩
  · rcases src x p e with ⟨rfl, rfl⟩ | ⟨n, e'⟩
    · rw [Gh.put_v, Gh.put_F]; exact h
    · rw [Gh.put_v' n, Gh.put_F' n]; exact S.rep x p e'
  · rcases set_get e with ⟨e1, e2, e3⟩ | ⟨e1, e2⟩
    · subst e1
      rw [Gh.put_v, List.getElem?_set_self (by rw [← S.len]; exact e3)]
    · rw [Gh.put_v' (fun z => e1 (Pl.sl.inj z)), List.getElem?_set_ne (Ne.symm e1)]
      exact S.sig j x e2
  · rcases src x p e1 with ⟨rfl, rfl⟩ | ⟨n1, f1⟩
    · rw [Gh.put_F] at m
      rcases src z q e2 with ⟨rfl, rfl⟩ | ⟨n2, f2⟩
      · exact absurd rfl ap.1
      · rw [Gh.put_F' n2]
        exact c1 a m z q f2 n2 (.inr own)
    · rw [Gh.put_F' n1] at m
      rcases src z q e2 with ⟨rfl, rfl⟩ | ⟨n2, f2⟩
      · rw [Gh.put_F]
        intro m2
        exact c1 a m2 x p f1 n1 (.inl own) m
      · rw [Gh.put_F' n2]
        exact S.dj x z p q f1 f2 own ap a m
  · rcases src x p e with ⟨rfl, rfl⟩ | ⟨n1, f1⟩
    · rw [Gh.put_F] at m; exact (c2 yy a m).1
    · rw [Gh.put_F' n1] at m; exact S.yg x p n f1 yy a m
  · rw [Gh.put_F' (by intro z; cases z)] at m
    exact S.yf q f p e a m
  · rcases src x p e with ⟨rfl, rfl⟩ | ⟨n1, f1⟩
    · rw [Gh.put_F] at m; exact c3 a m
    · rw [Gh.put_F' n1] at m; exact S.yp x p n f1 a m
  · rw [Gh.put_F' (by intro z; cases z)]
    have e2' : plc env ts w (.fd q f) = some pq := e2
    rcases src x p e with ⟨rfl, rfl⟩ | ⟨n1, f1⟩
    · rw [Gh.put_F] at m; exact (c2 yy a m).2 q f pq e2'
    · rw [Gh.put_F' n1] at m; exact S.fy x p q f pq n f1 yy e2' a m
/-- a value at hand into a slot -/
theorem Sim.asgVal {r : R} (S : Sim G b g (ts ++ [r]) env w σ H) (i : Nat) (hz : r.zz = true) :
    ∃ g', Keeps g g' ts.length ∧ Sim G b g' ts (env.set i (some (.val r.d r.yy))) w (σ.set i (some (g.v (.tm ts.length)))) H := by
  have ht : plc env (ts ++ [r]) w (.tm ts.length) = some (.rr r) := S.tm_at (by rw [List.getElem?_append_right (Nat.le_refl _), Nat.sub_self]; rfl)
  have hr : FRep G H (g.v (.tm ts.length)) r.d (g.F (.tm ts.length)) := S.rep _ _ ht
  refine ⟨_, fun j hj => Gh.put_v' (by intro z; cases z), S.drop.setPC (pc := .val r.d r.yy) hr (fun a m x p e hx own m2 => ?_) (fun y a m => S.ygf _ _ (by intro _ _ z; cases z) ht y a m) (fun a m => S.yp _ _ (by intro _ _ z; cases z) ht a m)⟩
  rcases own with own | own
  · refine S.dj x (.tm ts.length) p _ (plc_app e) ht own ⟨?_, ?_⟩ a m2 m
    · intro z
      rw [z] at e
      have e' : ts[ts.length]?.map PV.rr = some p := e
      rw [List.getElem?_eq_none (Nat.le_refl _)] at e'
      cases e'
    · rintro ⟨_, _, r2, _, _, e2, z⟩
      have := PV.rr.inj e2
      rw [← this, hz] at z
      cases z
  · cases own
theorem tm_none {x : Pl} {p : PV} (e : plc env ts w x = some p) : x ≠ .tm ts.length := by
  intro z
  rw [z] at e
  have e' : ts[ts.length]?.map PV.rr = some p := e
  rw [List.getElem?_eq_none (Nat.le_refl _)] at e'
  cases e'
/-- a new list at hand becomes the slot's own -/
theorem Sim.asgOwn {r : R} {ds : List D} (S : Sim G b g (ts ++ [r]) env w σ H) (i : Nat) (hf : r.f = true) (hy : r.y = true) (hd : r.d = .lst ds) (hn : D.ncs ds = true) :
    ∃ g', Keeps g g' ts.length ∧ Sim G b g' ts (env.set i (some (.lst ds))) w (σ.set i (some (g.v (.tm ts.length)))) H := by
  have ht : plc env (ts ++ [r]) w (.tm ts.length) = some (.rr r) := S.tm_at (by rw [List.getElem?_append_right (Nat.le_refl _), Nat.sub_self]; rfl)
  have hr : FRep G H (g.v (.tm ts.length)) r.d (g.F (.tm ts.length)) := S.rep _ _ ht
  have own : (PV.rr r).own = true := by show r.own = true; unfold R.own; rw [hf, hy, hd]; simp [hn]
  rw [hd] at hr
  obtain ⟨a0, vs, F', e1, e2, e3, e4⟩ := hr.lst_of
  have hF : F' = [] := FReps.nc e3 hn
  rw [hF] at e3
  rw [hF] at e4
  refine ⟨_, fun j hj => Gh.put_v' (by intro z; cases z), S.drop.setPC (pc := .lst ds) (F := [a0]) ⟨a0, vs, e1, rfl, e2, e3⟩ (fun a m x p e hx _ m2 => ?_) (fun y a m => S.ygf _ _ (by intro _ _ z; cases z) ht (by show (r.y || r.d.nc) = true; rw [hy]; rfl) a (by rw [e4]; exact m)) (fun a m => S.yp _ _ (by intro _ _ z; cases z) ht a (by rw [e4]; exact m))⟩
  exact S.dj (.tm ts.length) x _ p ht (plc_app e) own ⟨fun z => tm_none e z.symm, fun ⟨_, _, _, z, _⟩ => by cases z⟩ a (by rw [e4]; exact m) m2
/-- a fresh cell becomes the slot's own -/
theorem Sim.asgNew (S : Sim G b g ts env w σ H) (i : Nat) {p0 : Addr} {o : HO} {pc : PC} (hp : H p0 = none) (h : CRep G (upd H p0 o) (.ref p0) pc [p0]) :
    ∃ g', Keeps g g' ts.length ∧ Sim G b g' ts (env.set i (some pc)) w (σ.set i (some (.ref p0))) (upd H p0 o) := by
  have fr := S.fresh hp
  refine ⟨_, fun j hj => Gh.put_v' (by intro z; cases z), (S.same (same_upd hp)).setPC (pc := pc) h (fun a m x p e hx _ => ?_) (fun y a m => ?_) (fun a m => ?_)⟩
  · rw [List.mem_singleton.mp m]; exact fr.2 x p e
  · rw [List.mem_singleton.mp m]; exact fr.ygf
  · rw [List.mem_singleton.mp m]; exact .inl fr.1
/-- the slot's own list becomes a value -/
theorem Sim.freeze (S : Sim G b g ts env w σ H) {i : Nat} {ds : List D} (he : env[i]? = some (some (.lst ds))) : ∃ g', Keeps g g' ts.length ∧ Sim G b g' ts (env.set i (some (.val (.lst ds) true))) w σ H := by
  have hp : plc env ts w (.sl i) = some (.pc (.lst ds)) := plc_sl he
  obtain ⟨a0, vs, e1, e2, e3, e4⟩ := S.rep _ _ hp
  have S1 := S.setPC (i := i) (pc := .val (.lst ds) true) (v := g.v (.sl i)) (F := g.F (.sl i)) (by rw [e1, e2]; exact .lst e3 e4) (fun a m x p e hx own m2 => ?_) (fun y a m => S.ygf _ _ (by intro _ _ z; cases z) hp rfl a m) (fun a m => S.yp _ _ (by intro _ _ z; cases z) hp a m)
  · rw [set_self (S.sig i _ he)] at S1
    exact ⟨_, fun j hj => Gh.put_v' (by intro z; cases z), S1⟩
  · rcases own with own | own
    · refine S.dj x (.sl i) p _ e hp own ⟨hx, fun ⟨_, _, _, _, z, _⟩ => by cases z⟩ a m2 m
    · cases own

/-! ### an own list changes -/
theorem Sim.mutS (S : Sim G b g ts env w σ H) (hts : ∀ r ∈ ts, r.zz = true) {i : Nat} {pc pc' : PC} (he : env[i]? = some (some pc)) (ho : pc.own = true) (ho' : pc'.own = true) {c : Addr} {o : HO} (hc : c ∈ g.F (.sl i)) (hoc : IsCellO o)
    (h : CRep G (upd H c o) (g.v (.sl i)) pc' (g.F (.sl i))) : Sim G b g ts (env.set i (some pc')) w σ (upd H c o) := by
  have hp : plc env ts w (.sl i) = some (.pc pc) := plc_sl he
  have kind := (S.rep _ _ hp).kind
  obtain ⟨oc, k1, k2⟩ := kind c hc
  have evo : Evo H (upd H c o) := fun a u e im => by
    have : a ≠ c := fun z => by
      rw [z, k1] at e
      cases e
      cases oc <;> first | exact k2 | exact im
    rw [upd_ne this]; exact e
  have apart : ∀ y q, plc env ts w y = some q → y ≠ .sl i → Apart (.sl i) y q := fun y q e hy => ⟨Ne.symm hy, fun ⟨_, k, r, _, e1, e2, z⟩ => by
    rw [e1] at e
    have e' : ts[k]?.map PV.rr = some q := e
    cases hk : ts[k]? with
    | none => rw [hk] at e'; cases e'
    | some r2 =>
      rw [hk, e2] at e'
      have := PV.rr.inj (Option.some.inj e')
      rw [← this, hts r2 (List.mem_of_getElem? hk)] at z
      cases z⟩
  have src : ∀ x p, plc (env.set i (some pc')) ts w x = some p → (x = .sl i ∧ p = .pc pc') ∨ (x ≠ .sl i ∧ plc env ts w x = some p) := by
    intro x p e
    cases x with
    | tm k => exact .inr ⟨(by intro z; cases z), e⟩
    | fd q f => exact .inr ⟨(by intro z; cases z), e⟩
    | sl j =>
      obtain ⟨pc2, rfl, he⟩ := plc_sl_some e
      rcases set_get he with ⟨e1, e2, _⟩ | ⟨e1, e2⟩
      · subst e1
        have := Option.some.inj e2
        subst this
        exact .inl ⟨rfl, rfl⟩
      · exact .inr ⟨fun z => e1 (Pl.sl.inj z), plc_sl e2⟩
  refine ⟨fun x p e => ?_, fun j x e => ?_, fun x z p q e1 e2 own ap a m => ?_, fun p o' e => ?_, fun x p n e yy a m => ?_, fun q f p e a m => ?_, S.yo, fun a o' e n => ?_, fun a e => ?_, by simp [S.len], fun x p n e a m => ?_, fun x p q f pq n e yy e2 a m => ?_⟩
  · rcases src x p e with ⟨rfl, rfl⟩ | ⟨n, e'⟩
    · exact h
    · refine (S.rep x p e').stay evo fun a m => upd_ne fun z => ?_
      subst z
      exact S.dj (.sl i) x _ p hp e' ho (apart x p e' n) a hc m
  · rcases set_get e with ⟨e1, e2, e3⟩ | ⟨e1, e2⟩
    · subst e1; exact S.sig j pc he
    · exact S.sig j x e2
  · rcases src x p e1 with ⟨rfl, rfl⟩ | ⟨n1, f1⟩
    · rcases src z q e2 with ⟨rfl, rfl⟩ | ⟨n2, f2⟩
      · exact absurd rfl ap.1
      · exact S.dj (.sl i) z _ q hp f2 ho (apart z q f2 n2) a m
    · rcases src z q e2 with ⟨rfl, rfl⟩ | ⟨n2, f2⟩
      · exact S.dj x (.sl i) p _ f1 hp own ⟨n1, fun ⟨_, _, _, _, z, _⟩ => by cases z⟩ a m
      · exact S.dj x z p q f1 f2 own ap a m
  · obtain ⟨dx, h1, h2⟩ := S.ins p o' e
    have : p ≠ c := fun z => by rw [z, k1] at h1; cases h1; exact k2
    exact ⟨dx, by rw [upd_ne this]; exact h1, h2⟩
  · rcases src x p e with ⟨rfl, rfl⟩ | ⟨n1, f1⟩
    · exact S.yg (.sl i) _ n hp (by cases pc <;> first | rfl | cases ho) a m
    · exact S.yg x p n f1 yy a m
  · exact S.yf q f p e a m
  · have : a ≠ c := fun z => by
      have := S.yg (.sl i) _ (by intro _ _ z; cases z) hp (by cases pc <;> first | rfl | cases ho) c hc
      rw [z, this] at e; cases e
    rw [upd_ne this]; exact S.fr a o' e n
  · have : a ≠ c := fun z => by rw [z, upd_same] at e; cases e
    rw [upd_ne this] at e
    exact S.gr a e
  · rcases src x p e with ⟨rfl, rfl⟩ | ⟨n1, f1⟩
    · exact S.yp (.sl i) _ n hp a m
    · exact S.yp x p n f1 a m
  · have e2' : plc env ts w (.fd q f) = some pq := e2
    rcases src x p e with ⟨rfl, rfl⟩ | ⟨n1, f1⟩
    · exact S.fy (.sl i) _ q f pq n hp (by cases pc <;> first | rfl | cases ho) e2' a m
    · exact S.fy x p q f pq n f1 yy e2' a m
theorem fput_has {fs : List (Fd × PC)} {f : Fd} {x : PC} (h : (fget fs f).isSome = true) : fput fs f x = fs.map fun z => if z.1 = f then (f, x) else z := by
  unfold fput
  rw [if_pos]
  unfold fget at h
  cases e : fs.find? fun z => decide (z.1 = f) with
  | none => rw [e] at h; cases h
  | some z => exact List.any_eq_true.mpr ⟨z, List.mem_of_find?_eq_some e, by simpa using List.find?_some e⟩
theorem fput_no {fs : List (Fd × PC)} {f : Fd} {x : PC} (h : fget fs f = none) : fput fs f x = fs ++ [(f, x)] := by
  unfold fput
  rw [if_neg]
  intro q
  obtain ⟨z, m, e⟩ := List.any_eq_true.mp q
  unfold fget at h
  cases e2 : fs.find? fun z => decide (z.1 = f) with
  | none =>
    have := List.find?_eq_none.mp e2 z m
    exact this e
  | some z => rw [e2] at h; cases h
theorem fget_put {fs : List (Fd × PC)} {f : Fd} {x : PC} (h : Fd) : fget (fput fs f x) h = if h = f then some x else fget fs h := by
  by_cases hf : (fget fs f).isSome = true
  · rw [fput_has hf]
    unfold fget at hf ⊢
    induction fs with
    | nil => cases hf
    | cons z r ih =>
      rw [List.map_cons]
      by_cases e : z.1 = f
      · rw [if_pos e]
        by_cases e2 : h = f
        · rw [if_pos e2, List.find?_cons_of_pos (by simp [e2])]; rfl
        · rw [if_neg e2, List.find?_cons_of_neg (by simpa using fun z => e2 z.symm), List.find?_cons_of_neg (by rw [e]; simpa using fun z => e2 z.symm)]
          clear ih hf
          induction r with
          | nil => rfl
          | cons y r ih =>
            rw [List.map_cons]
            by_cases e3 : y.1 = f
            · rw [if_pos e3, List.find?_cons_of_neg (by simpa using fun z => e2 z.symm), List.find?_cons_of_neg (by rw [e3]; simpa using fun z => e2 z.symm)]
              exact ih
            · rw [if_neg e3]
              by_cases e4 : y.1 = h
              · rw [List.find?_cons_of_pos (by simp [e4]), List.find?_cons_of_pos (by simp [e4])]
              · rw [List.find?_cons_of_neg (by simp [e4]), List.find?_cons_of_neg (by simp [e4])]
                exact ih
      · rw [if_neg e]
        rw [List.find?_cons_of_neg (by simp [e])] at hf
        have ih := ih hf
        by_cases e2 : z.1 = h
        · have : h ≠ f := fun q => e (e2.trans q)
          rw [List.find?_cons_of_pos (by simp [e2]), if_neg this, List.find?_cons_of_pos (by simp [e2])]
        · rw [List.find?_cons_of_neg (by simp [e2]), List.find?_cons_of_neg (by simp [e2])]
          exact ih
  · have hf : fget fs f = none := by
      cases e : fget fs f with
      | none => rfl
      | some z => rw [e] at hf; exact absurd rfl hf
    rw [fput_no hf]
    unfold fget at hf ⊢
    rw [List.find?_append]
    by_cases e2 : h = f
    · subst e2
      rw [if_pos rfl]
      cases e : fs.find? fun z => decide (z.1 = h) with
      | none => simp
      | some z => rw [e] at hf; cases hf
    · rw [if_neg e2]
      cases e : fs.find? fun z => decide (z.1 = h) with
      | some z => simp
      | none =>
        have : ¬ f = h := fun z => e2 z.symm
        simp [this]
end
end LL
end
section
set_option Elab.async false
set_option linter.all false
set_option maxRecDepth 100000
/-! LStm2: fields stored. -/
namespace LL
open PySem L2
section
variable {G : SG} {b : Bs} {g : Gh} {ts us : List R} {env : Env} {w : Wd} {σ : St} {H : Hp}
theorem plc_fput {p : Nat} {ob : Ob} {f : Fd} {pc : PC} (hw : w p = some ob) {x : Pl} {q : PV} (h : plc env ts (w.put p ⟨ob.c, fput ob.fs f pc⟩) x = some q) :
    (x = .fd p f ∧ q = .pc pc) ∨ (x ≠ .fd p f ∧ plc env ts w x = some q) := by
  cases x with
  | sl i => exact .inr ⟨(by intro z; cases z), h⟩
  | tm i => exact .inr ⟨(by intro z; cases z), h⟩
  | fd p' f' =>
    by_cases e : p' = p
    · subst e
      have h' : (fget (fput ob.fs f pc) f').map PV.pc = some q := by
        have h1 : plc env ts (w.put p' ⟨ob.c, fput ob.fs f pc⟩) (.fd p' f') = some q := h
        simp only [plc, Wd.put_same] at h1
        exact h1
      rw [fget_put] at h'
      by_cases e2 : f' = f
      · subst e2
        rw [if_pos rfl] at h'
        exact .inl ⟨rfl, (Option.some.inj h').symm⟩
      · rw [if_neg e2] at h'
        refine .inr ⟨fun z => e2 (Pl.fd.inj z).2, ?_⟩
        simp only [plc, hw]
        exact h'
    · rw [plc_put (fun f2 z => e (Pl.fd.inj z).1)] at h
      exact .inr ⟨fun z => e (Pl.fd.inj z).1, h⟩
theorem fput_map {v : Fd → V} {fs : List (Fd × PC)} {f : Fd} {x : PC} (h : (fget fs f).isSome = true) : (fput fs f x).map (fun z => (fdS z.1, v z.1)) = fs.map fun z => (fdS z.1, v z.1) := by
  rw [fput_has h, List.map_map]
  apply List.map_congr_left
  intro z _
  by_cases e : z.1 = f
  · simp [e]
  · simp [e]
theorem fput_keys {fs : List (Fd × PC)} {f : Fd} {x : PC} (h : (fget fs f).isSome = true) : (fput fs f x).map (·.1) = fs.map (·.1) := by
  rw [fput_has h, List.map_map]
  apply List.map_congr_left
  intro z _
  by_cases e : z.1 = f
  · simp [e]
  · simp [e]
theorem Sim.mutF (S : Sim G b g ts env w σ H) {p : Nat} {ob : Ob} {f : Fd} {pc pc' : PC} (hw : w p = some ob) (hf : fget ob.fs f = some pc) (ho : pc.own = true) (ho' : pc'.own = true) {c : Addr} {o : HO} (hc : c ∈ g.F (.fd p f)) (hoc : IsCellO o)
    (h : CRep G (upd H c o) (g.v (.fd p f)) pc' (g.F (.fd p f))) : Sim G b g ts env (w.put p ⟨ob.c, fput ob.fs f pc'⟩) σ (upd H c o) := by
  have hp : plc env ts w (.fd p f) = some (.pc pc) := plc_fd hw hf
  have kind := (S.rep _ _ hp).kind
  obtain ⟨oc, k1, k2⟩ := kind c hc
  have evo : Evo H (upd H c o) := fun a u e im => by
    have : a ≠ c := fun z => by
      rw [z, k1] at e
      cases e
      cases oc <;> first | exact k2 | exact im
    rw [upd_ne this]; exact e
  have apart : ∀ y q, y ≠ .fd p f → Apart (.fd p f) y q := fun y q hy => ⟨Ne.symm hy, fun ⟨_, _, _, z, _⟩ => by cases z⟩
  have src := fun {x : Pl} {q : PV} (e : plc env ts (w.put p ⟨ob.c, fput ob.fs f pc'⟩) x = some q) => plc_fput (f := f) (pc := pc') hw e
  have hcb : b.H0 c = none ∨ b.M0 c := by
    rcases S.yf p f _ hp c hc with z | z | ⟨_, z⟩
    · exact .inl z
    · exact .inr z
    · have z : pc.own = false := z
      rw [ho] at z; cases z
  refine ⟨fun x q e => ?_, S.sig, fun x z q1 q2 e1 e2 own ap a m => ?_, fun p' o' e => ?_, fun x q n e yy a m => ?_, fun p' f' q e a m => ?_, fun p' o' e => ?_, fun a o' e n => ?_, fun a e => ?_, S.len, fun x q n e a m => ?_, fun x q q2 f2 pq n e yy e2 a m => ?_⟩
  · rcases src e with ⟨rfl, rfl⟩ | ⟨n, e'⟩
    · exact h
    · refine (S.rep x q e').stay evo fun a m => upd_ne fun z => ?_
      subst z
      exact S.dj (.fd p f) x _ q hp e' ho (apart x q n) a hc m
  · rcases src e1 with ⟨rfl, rfl⟩ | ⟨n1, f1⟩
    · rcases src e2 with ⟨rfl, rfl⟩ | ⟨n2, f2⟩
      · exact absurd rfl ap.1
      · exact S.dj (.fd p f) z _ q2 hp f2 ho (apart z q2 n2) a m
    · rcases src e2 with ⟨rfl, rfl⟩ | ⟨n2, f2⟩
      · exact S.dj x (.fd p f) q1 _ f1 hp own ⟨n1, fun ⟨_, _, _, _, z, _⟩ => by cases z⟩ a m
      · exact S.dj x z q1 q2 f1 f2 own ap a m
  · by_cases e3 : p' = p
    · subst e3
      rw [Wd.put_same] at e
      have e := Option.some.inj e
      subst e
      obtain ⟨dx, h1, h2, h3⟩ := S.ins p' ob hw
      have : p' ≠ c := fun z => by rw [z, k1] at h1; cases h1; exact k2
      refine ⟨dx, ?_, ?_, h3⟩
      · rw [upd_ne this]
        show H p' = some (.ins (G.ca ob.c) dx ((fput ob.fs f pc').map fun z => (fdS z.1, g.v (.fd p' z.1))))
        rw [fput_map (v := fun f => g.v (.fd p' f)) (by rw [hf]; rfl)]
        exact h1
      · show ((fput ob.fs f pc').map (·.1)).Nodup
        rw [fput_keys (by rw [hf]; rfl)]
        exact h2
    · rw [Wd.put_ne e3] at e
      obtain ⟨dx, h1, h2⟩ := S.ins p' o' e
      have : p' ≠ c := fun z => by rw [z, k1] at h1; cases h1; exact k2
      exact ⟨dx, by rw [upd_ne this]; exact h1, h2⟩
  · rcases src e with ⟨rfl, rfl⟩ | ⟨n1, f1⟩
    · exact absurd rfl (n p f)
    · exact S.yg x q n f1 yy a m
  · rcases src e with ⟨e1, rfl⟩ | ⟨n1, f1⟩
    · obtain ⟨rfl, rfl⟩ := Pl.fd.inj e1
      rcases S.yf p' f' _ hp a m with z | z | ⟨_, z⟩
      · exact .inl z
      · exact .inr (.inl z)
      · have z : pc.own = false := z
        rw [ho] at z; cases z
    · exact S.yf p' f' q f1 a m
  · by_cases e3 : p' = p
    · subst e3; exact S.yo p' ob hw
    · rw [Wd.put_ne e3] at e; exact S.yo p' o' e
  · have : a ≠ c := fun z => by
      rcases hcb with h | h
      · rw [z, h] at e; cases e
      · rw [z] at n; exact n h
    rw [upd_ne this]; exact S.fr a o' e n
  · have : a ≠ c := fun z => by rw [z, upd_same] at e; cases e
    rw [upd_ne this] at e
    exact S.gr a e
  · rcases src e with ⟨rfl, rfl⟩ | ⟨n1, f1⟩
    · exact absurd rfl (n p f)
    · exact S.yp x q n f1 a m
  · rcases src e with ⟨rfl, rfl⟩ | ⟨n1, f1⟩
    · exact absurd rfl (n p f)
    · rcases src e2 with ⟨e3, rfl⟩ | ⟨n2, f3⟩
      · rw [e3]; exact S.fy x q p f _ n f1 yy hp a m
      · exact S.fy x q q2 f2 pq n f1 yy f3 a m
theorem putF_new {v : Fd → V} {y : V} {f : Fd} : ∀ {fs : List (Fd × PC)}, fget fs f = none → putF (fdS f) y (fs.map fun z => (fdS z.1, v z.1)) = (fs.map fun z => (fdS z.1, v z.1)) ++ [(fdS f, y)]
  | [], _ => rfl
  | z :: r, h => by
    have hz : ¬ z.1 = f := fun e => by
      unfold fget at h
      rw [List.find?_cons_of_pos (by simp [e])] at h
      cases h
    have hr : fget r f = none := by
      unfold fget at h ⊢
      rw [List.find?_cons_of_neg (by simp [hz])] at h
      exact h
    rw [List.map_cons, List.cons_append]
    show (if fdS z.1 = fdS f then _ else _) = _
    rw [if_neg fun e => hz (fdS_inj _ _ e), putF_new hr]
theorem Sim.newFld (S : Sim G b g ts env w σ H) {p : Nat} {ob : Ob} {f : Fd} {pc : PC} {v : V} {F : List Addr} (hw : w p = some ob) (hf : fget ob.fs f = none) (h : CRep G H v pc F)
    (c1 : ∀ a ∈ F, ∀ x q, plc env ts w x = some q → a ∉ g.F x) (c2 : ∀ a ∈ F, b.H0 a = none) :
    ∃ dx fs, H p = some (.ins (G.ca ob.c) dx fs) ∧ fs.length = ob.fs.length ∧ ∃ g', Keeps g g' ts.length ∧ Sim G b g' ts env (w.put p ⟨ob.c, fput ob.fs f pc⟩) σ (upd H p (.ins (G.ca ob.c) dx (putF (fdS f) v fs))) := by
  obtain ⟨dx, h1, h2, h3⟩ := S.ins p ob hw
  refine ⟨dx, _, h1, by simp, g.put (.fd p f) v F, fun j hj => Gh.put_v' (by intro z; cases z), ?_⟩
  generalize hH : upd H p (.ins (G.ca ob.c) dx (putF (fdS f) v (ob.fs.map fun z => (fdS z.1, g.v (.fd p z.1))))) = H'
  have hne : ∀ a, a ≠ p → H' a = H a := fun a n => by rw [← hH]; exact upd_ne n
  have hp' : H' p = some (.ins (G.ca ob.c) dx (putF (fdS f) v (ob.fs.map fun z => (fdS z.1, g.v (.fd p z.1))))) := by rw [← hH]; exact upd_same
  have evo : Evo H H' := fun a u e im => by
    have : a ≠ p := fun z => by rw [z, h1] at e; cases e; exact im
    rw [hne a this]; exact e
  have cell : ∀ {a}, (∃ o, H a = some o ∧ IsCellO o) → H' a = H a := fun {a} ⟨o, e, i⟩ => hne a fun z => by rw [z, h1] at e; cases e; exact i
  have src := fun {x : Pl} {q : PV} (e : plc env ts (w.put p ⟨ob.c, fput ob.fs f pc⟩) x = some q) => plc_fput (f := f) (pc := pc) hw e
  have hk : PRep G H v (.pc pc) F := h
  refine ⟨fun x q e => ?_, fun j x e => ?_, fun x z q1 q2 e1 e2 own ap a m => ?_, fun p' o' e => ?_, fun x q n e yy a m => ?_, fun p' f' q e a m => ?_, fun p' o' e => ?_, fun a o' e n => ?_, fun a e => ?_, S.len, fun x q n e a m => ?_, fun x q q2 f2 pq n e yy e2 a m => ?_⟩
  · rcases src e with ⟨rfl, rfl⟩ | ⟨n, e'⟩
    · rw [Gh.put_v, Gh.put_F]
      exact hk.stay evo fun a m => cell (hk.kind a m)
    · rw [Gh.put_v' n, Gh.put_F' n]
      exact (S.rep x q e').stay evo fun a m => cell ((S.rep x q e').kind a m)
  · rw [Gh.put_v' (by intro z; cases z)]
    exact S.sig j x e
  · rcases src e1 with ⟨rfl, rfl⟩ | ⟨n1, f1⟩
    · rw [Gh.put_F] at m
      rcases src e2 with ⟨rfl, rfl⟩ | ⟨n2, f2⟩
      · exact absurd rfl ap.1
      · rw [Gh.put_F' n2]
        exact c1 a m z q2 f2
    · rw [Gh.put_F' n1] at m
      rcases src e2 with ⟨rfl, rfl⟩ | ⟨n2, f2⟩
      · rw [Gh.put_F]
        intro m2
        exact c1 a m2 x q1 f1 m
      · rw [Gh.put_F' n2]
        exact S.dj x z q1 q2 f1 f2 own ap a m
  · by_cases e3 : p' = p
    · subst e3
      rw [Wd.put_same] at e
      have e := Option.some.inj e
      subst e
      refine ⟨dx, ?_, ?_, h3⟩
      · rw [hp', putF_new (v := fun f => g.v (.fd p' f)) hf]
        show some (HO.ins (G.ca ob.c) dx _) = some (HO.ins (G.ca ob.c) dx ((fput ob.fs f pc).map fun z => (fdS z.1, (g.put (.fd p' f) v F).v (.fd p' z.1))))
        rw [fput_no hf, List.map_append, List.map_cons, List.map_nil, Gh.put_v]
        congr 3
        apply List.map_congr_left
        intro z mz
        have : z.1 ≠ f := fun e => by
          unfold fget at hf
          cases hq : ob.fs.find? fun z => decide (z.1 = f) with
          | none => exact (List.find?_eq_none.mp hq z mz) (by simp [e])
          | some y => rw [hq] at hf; cases hf
        rw [Gh.put_v' (fun q => this (Pl.fd.inj q).2)]
      · show ((fput ob.fs f pc).map (·.1)).Nodup
        rw [fput_no hf, List.map_append, List.map_cons, List.map_nil]
        refine List.nodup_append.mpr ⟨h2, by simp, ?_⟩
        intro x mx y my
        obtain ⟨z, mz, rfl⟩ := List.mem_map.mp mx
        rw [List.mem_singleton.mp my]
        intro e
        unfold fget at hf
        cases hq : ob.fs.find? fun z => decide (z.1 = f) with
        | none => exact (List.find?_eq_none.mp hq z mz) (by simp [e])
        | some y => rw [hq] at hf; cases hf
    · rw [Wd.put_ne e3] at e
      obtain ⟨dx', h1', h2'⟩ := S.ins p' o' e
      refine ⟨dx', ?_, h2'⟩
      rw [hne p' e3, h1']
      congr 2
      apply List.map_congr_left
      intro z _
      rw [Gh.put_v' (fun q => e3 (Pl.fd.inj q).1)]
  · rcases src e with ⟨rfl, rfl⟩ | ⟨n1, f1⟩
    · exact absurd rfl (n p f)
    · rw [Gh.put_F' n1] at m; exact S.yg x q n f1 yy a m
  · rcases src e with ⟨e1, rfl⟩ | ⟨n1, f1⟩
    · rw [e1, Gh.put_F] at m
      exact .inl (c2 a m)
    · rw [Gh.put_F' n1] at m; exact S.yf p' f' q f1 a m
  · by_cases e3 : p' = p
    · subst e3; exact S.yo p' ob hw
    · rw [Wd.put_ne e3] at e; exact S.yo p' o' e
  · have : a ≠ p := fun z => by
      rcases S.yo p ob hw with h | h
      · rw [z] at n; exact n h
      · rw [z, h] at e; cases e
    rw [hne a this]; exact S.fr a o' e n
  · have : a ≠ p := fun z => by rw [z, hp'] at e; cases e
    rw [hne a this] at e
    exact S.gr a e
  · rcases src e with ⟨rfl, rfl⟩ | ⟨n1, f1⟩
    · exact absurd rfl (n p f)
    · rw [Gh.put_F' n1] at m; exact S.yp x q n f1 a m
  · rcases src e with ⟨rfl, rfl⟩ | ⟨n1, f1⟩
    · exact absurd rfl (n p f)
    · rw [Gh.put_F' n1] at m
      rcases src e2 with ⟨e3, rfl⟩ | ⟨n2, f3⟩
      · rw [e3, Gh.put_F]; exact fun m2 => c1 a m2 x q f1 m
      · rw [Gh.put_F' n2]; exact S.fy x q q2 f2 pq n f1 yy f3 a m
end
end LL
end
section
set_option Elab.async false
set_option linter.all false
set_option maxRecDepth 100000
/-! LStm3: statements. -/
namespace LL
open PySem L2
structure SOk (G : SG) (b : Bs) (W : WX) (g : Gh) (ts : List R) (K : Ends) (D : L2.Ends) : Prop where
  nx : ∀ {g' env' w' σ' H'}, K.nx env' w' → Sim G b g' ts env' w' σ' H' → Keeps g g' ts.length → D.nx σ' H'
  rt : ∀ {g' r env' w' σ' H'}, K.rt r w' → Sim G b g' (ts ++ [r]) env' w' σ' H' → D.rt (g'.v (.tm ts.length)) H'
  ex : ∀ {x g' env' w' σ' H'}, K.ex x env' w' → Sim G b g' ts env' w' σ' H' → W (.ref (G.xc x)) none σ' H'
def tS (G : SG) (b : Bs) (W : WX) (τ : Ends → Env → Wd → Prop) : TS := fun D σ H => ∃ g ts env w K,
  Sim G b g ts env w σ H ∧ (∀ r ∈ ts, r.zz = true) ∧ τ K env w ∧ SOk G b W g ts K D
theorem PS.imp {X : Cx} {e : Stmt} {t t' : TS} (h : PS X e t) (i : ∀ D σ H, t' D σ H → t D σ H) : PS X e t' := ⟨fun pins s σ H D I q => h.run pins s σ H D I (i D σ H q)⟩
theorem PSs.imp {X : Cx} {e : List Stmt} {t t' : TS} (h : PSs X e t) (i : ∀ D σ H, t' D σ H → t D σ H) : PSs X e t' := ⟨fun pins s σ H D I q => h.run pins s σ H D I (i D σ H q)⟩
theorem Keeps.trans {g g1 g2 : Gh} {n : Nat} (a : Keeps g g1 n) (b : Keeps g1 g2 n) : Keeps g g2 n := fun k hk => (b k hk).trans (a k hk)
section
variable {G : SG} {b : Bs} {W : WX} {g g1 : Gh} {ts : List R} {K : Ends} {D : L2.Ends}
theorem SOk.keep (o : SOk G b W g ts K D) (k : Keeps g g1 ts.length) : SOk G b W g1 ts K D := ⟨fun q S k' => o.nx q S (k.trans k'), o.rt, o.ex⟩
end
section
variable {Fn : Type} {Phi : Fn → LSp} {X : Cx} {G : SG} {b : Bs} {W : WX}
variable {e e1 e2 e3 : Expr} {m m1 m2 m3 : ME Fn} {pos p1 p2 apos cpos : Pos}
/-- the statement is the mini statement -/
abbrev LS (Phi : Fn → LSp) (X : Cx) (G : SG) (b : Bs) (W : WX) (m : MS Fn) (s : Stmt) : Prop := PS X s (tS G b W (les Phi m))
abbrev LSs (Phi : Fn → LSp) (X : Cx) (G : SG) (b : Bs) (W : WX) (m : MS Fn) (s : List Stmt) : Prop := PSs X s (tS G b W (les Phi m))
theorem ls_nil : LSs Phi X G b W .skip [] := PSs.imp pss_nil fun D σ H ⟨g, ts, env, w, K, S, hz, q, ok⟩ => by
  simp only [les] at q
  exact ok.nx q S fun _ _ => rfl
theorem ls_pass : LS Phi X G b W .skip (.Pass pos) := PS.imp ps_pass fun D σ H ⟨g, ts, env, w, K, S, hz, q, ok⟩ => by
  simp only [les] at q
  exact ok.nx q S fun _ _ => rfl
theorem seq_read {a c : MS Fn} {D : L2.Ends} {σ : St} {H : Hp} (h : tS G b W (les Phi (.seq a c)) D σ H) : tS G b W (les Phi a) { D with nx := tS G b W (les Phi c) D } σ H := by
  obtain ⟨g, ts, env, w, K, S, hz, q, ok⟩ := h
  simp only [les] at q
  exact ⟨g, ts, env, w, _, S, hz, q, fun q S k => ⟨_, ts, _, _, K, S, hz, q, ok.keep k⟩, ok.rt, ok.ex⟩
theorem ls_cons {a c : MS Fn} {s : Stmt} {ss : List Stmt} (h1 : LS Phi X G b W a s) (h2 : LSs Phi X G b W c ss) : LSs Phi X G b W (.seq a c) (s :: ss) :=
  PSs.imp (pss_cons h1 h2) fun D σ H h => seq_read h
theorem ls_one {a : MS Fn} {s : Stmt} (h1 : LS Phi X G b W a s) : LSs Phi X G b W a [s] := pss_one h1
theorem ls_frz {i : Nat} {c : MS Fn} {ss : List Stmt} (h2 : LSs Phi X G b W c ss) : LSs Phi X G b W (.seq (.frz i) c) ss := PSs.imp h2 fun D σ H ⟨g, ts, env, w, K, S, hz, q, ok⟩ => by
  simp only [les] at q
  obtain ⟨pc, he, q⟩ := onSlot_some q
  cases pc with
  | lst ds =>
    obtain ⟨g', k, S'⟩ := S.freeze he
    exact ⟨g', ts, _, w, K, S', hz, q, ok.keep k⟩
  | _ => exact q.elim
/-- a local of the frame -/
structure Slo (X : Cx) (i : Nat) (x : Str) : Prop where
  hi : X.N[i]? = some x
  loc : Loc X.env.scope x
  fn : X.fn x = true ∨ X.env.scope.names.lookup x = some .local
theorem asg_read {i : Nat} {D : L2.Ends} {σ : St} {H : Hp} (h : tS G b W (les Phi (.asg i m)) D σ H) : tE G b W (lev Phi m) σ H fun x H1 => gName i x σ H1 D.nx := by
  obtain ⟨g, ts, env, w, K, S, hz, q, ok⟩ := h
  simp only [les] at q
  refine ⟨g, ts, env, w, _, _, S, q, fun r w' g' H' q S' k => ?_, fun x w' g' H' q S' => ok.ex q S'⟩
  obtain ⟨g2, k2, S2⟩ := S'.asgVal i q.1
  exact ok.nx q.2 S2 (k.trans k2)
theorem asgL_read {i : Nat} {D : L2.Ends} {σ : St} {H : Hp} (h : tS G b W (les Phi (.asgL i m)) D σ H) : tE G b W (lev Phi m) σ H fun x H1 => gName i x σ H1 D.nx := by
  obtain ⟨g, ts, env, w, K, S, hz, q, ok⟩ := h
  simp only [les] at q
  refine ⟨g, ts, env, w, _, _, S, q, fun r w' g' H' q S' k => ?_, fun x w' g' H' q S' => ok.ex q S'⟩
  obtain ⟨hf, hy, q⟩ := q
  obtain ⟨ds, hd, hn, q⟩ := onLst_some q
  obtain ⟨g2, k2, S2⟩ := S'.asgOwn i hf hy hd hn
  exact ok.nx q S2 (k.trans k2)
theorem ls_asg {i : Nat} {x : Str} (hN : X.N.Nodup) (hs : Slo X i x) (hsw : swapsWith e (some (.Name x p1)) pos.line X.env = pure false) (h : LE Phi X G b W m e) : LS Phi X G b W (.asg i m) (.Assign [.Name x p1] e pos) :=
  PS.imp (ps_set hN hs.hi hs.loc h hsw hs.fn) fun D σ H h => asg_read h
theorem ls_asgL {i : Nat} {x : Str} (hN : X.N.Nodup) (hs : Slo X i x) (hsw : swapsWith e (some (.Name x p1)) pos.line X.env = pure false) (h : LE Phi X G b W m e) : LS Phi X G b W (.asgL i m) (.Assign [.Name x p1] e pos) :=
  PS.imp (ps_set hN hs.hi hs.loc h hsw hs.fn) fun D σ H h => asgL_read h
theorem ls_asgD {i : Nat} {x : Str} (hN : X.N.Nodup) (hs : Slo X i x) (hsw : swapsWith (.Dict [] [] p2) (some (.Name x p1)) pos.line X.env = pure false) : LS Phi X G b W (.asgD i) (.Assign [.Name x p1] (.Dict [] [] p2) pos) :=
  PS.imp (ps_set hN hs.hi hs.loc pe_dnewK hsw hs.fn) fun D σ H ⟨g, ts, env, w, K, S, hz, q, ok⟩ => by
    simp only [les] at q
    intro p hp
    obtain ⟨g2, k2, S2⟩ := S.asgNew i (o := .dK []) (pc := .dic []) hp ⟨p, [], rfl, rfl, upd_same, .nil⟩
    exact ok.nx q S2 k2
theorem ls_expr (hs : swapsWith e none pos.line X.env = pure false) (h : LE Phi X G b W m e) : LS Phi X G b W (.expr m) (.Expr e pos) :=
  PS.imp (ps_expr h hs) fun D σ H ⟨g, ts, env, w, K, S, hz, q, ok⟩ => by
    simp only [les] at q
    exact ⟨g, ts, env, w, _, _, S, q, fun r w' g' H' q S' k => ok.nx q S'.drop k, fun x w' g' H' q S' => ok.ex q S'⟩
theorem ls_ret (h : LE Phi X G b W m e) : LS Phi X G b W (.ret m) (.Return (some e) pos) :=
  PS.imp (ps_ret h) fun D σ H ⟨g, ts, env, w, K, S, hz, q, ok⟩ => by
    simp only [les] at q
    exact ⟨g, ts, env, w, _, _, S, q, fun r w' g' H' q S' k => ok.rt q S', fun x w' g' H' q S' => ok.ex q S'⟩
theorem ls_retN : LS Phi X G b W .retN (.Return none pos) :=
  PS.imp ps_retN fun D σ H ⟨g, ts, env, w, K, S, hz, q, ok⟩ => by
    simp only [les] at q
    have S' : Sim G b g (ts ++ []) env w σ H := by rw [List.append_nil]; exact S
    have := ok.rt q (S'.push (r := sc .non) (v := .non) (F := []) .non fun _ m => nomatch m)
    rw [Gh.put_v] at this
    exact this
/-- the test e is the mini expression m -/
abbrev LT (Phi : Fn → LSp) (X : Cx) (G : SG) (b : Bs) (W : WX) (m : ME Fn) (e : Expr) : Prop := PT X e (tQ G b W (lev Phi m))
theorem PT.imp {X : Cx} {e : Expr} {t t' : TT} (h : PT X e t) (i : ∀ σ H Q, t' σ H Q → t σ H Q) : PT X e t' := ⟨fun pins s σ H Q I q => h.run pins s σ H Q I (i σ H Q q)⟩
theorem ls_if {a c : MS Fn} {ss us : List Stmt} (T : CTx G X) (h : LT Phi X G b W m e) (h1 : LSs Phi X G b W a ss) (h2 : LSs Phi X G b W c us) : LS Phi X G b W (.ifS m a c) (.If e ss us pos) :=
  PS.imp (ps_if h h1 h2) fun D σ H ⟨g, ts, env, w, K, S, hz, q, ok⟩ => by
    simp only [les] at q
    refine ⟨g, ts, env, w, _, _, S, q, fun r w' g' H' q S' k => ?_, fun x w' g' H' q S' => ok.ex q S'⟩
    obtain ⟨c, hc, q⟩ := onSome_some q
    have hr : FRep G H' (g'.v (.tm ts.length)) r.d (g'.F (.tm ts.length)) := S'.rep _ _ (S'.tm_at (by rw [List.getElem?_append_right (Nat.le_refl _), Nat.sub_self]; rfl))
    refine ⟨c, by rw [T.kk]; exact tru_of hr hc, ?_⟩
    cases c with
    | true => exact iteT ⟨g', ts, env, w', K, S'.drop, hz, q.1 rfl, ok.keep k⟩
    | false => exact iteF ⟨g', ts, env, w', K, S'.drop, hz, q.2 rfl, ok.keep k⟩
end
end LL
end
section
set_option Elab.async false
set_option linter.all false
set_option maxRecDepth 100000
/-! LStm4: own lists and dicts are written. -/
namespace LL
open PySem L2
theorem pset_or {X : Cx} {t t' : TSet} (h : PSet X t) (h' : PSet X t') : PSet X (fun o i v H Q => t o i v H Q ∨ t' o i v H Q) := by
  intro pins s σ H o i v ov iv u Q I ro ri rv q
  rcases q with q | q
  · exact h pins s σ H o i v ov iv u Q I ro ri rv q
  · exact h' pins s σ H o i v ov iv u Q I ro ri rv q
theorem evo_cell {H : Hp} {c : Addr} {o o' : HO} (h : H c = some o) (i : IsCellO o) : Evo H (upd H c o') := fun a u e im => by
  have : a ≠ c := fun z => by
    rw [z, h] at e
    cases e
    cases o <;> first | exact i | exact im
  rw [upd_ne this]; exact e
theorem ixN_of {n : Nat} {k : Int} (h0 : 0 ≤ k) (h : k < n) : ixN n k = some k.toNat := by
  unfold ixN
  rw [if_pos h0, if_pos h]
theorem setK_cases {pc : PC} {k : Int} {d : D} {P : PC → Prop} (h : pc.setK k d P) : (∃ ds, pc = .lst ds ∧ 0 ≤ k ∧ k < (ds.length : Int) ∧ P (.lst (ds.set k.toNat d))) ∨ ∃ ks, pc = .dic ks ∧ ks.length < 1000 ∧ P (.dic (dput ks k d)) := by
  cases pc with
  | lst ds => exact .inl ⟨ds, rfl, h.1, h.2.1, h.2.2⟩
  | dic ks => exact .inr ⟨ks, rfl, h.1, h.2⟩
  | _ => exact h.elim
/-- an item stored into an own list or dict -/
theorem setK_rep {G : SG} {H : Hp} {v x : V} {F : List Addr} {pc : PC} {k : Int} {d : D} {P : PC → Prop} (hr : CRep G H v pc F) (hx : FRep G H x d []) (h : pc.setK k d P) :
    ∃ c o pc', c ∈ F ∧ IsCellO o ∧ pc.own = true ∧ pc'.own = true ∧ CRep G (upd H c o) v pc' F ∧ P pc' ∧ ∀ Q : Hp → Prop, Q (upd H c o) → rSetL v (.int k) x H Q ∨ rSetD v (.int k) x H Q := by
  rcases setK_cases h with ⟨ds, rfl, h0, h1, p⟩ | ⟨ks, rfl, h1, p⟩
  · obtain ⟨a, vs, rfl, rfl, ha, r⟩ := hr
    have ev : Evo H (upd H a (.lst (vs.set k.toNat x))) := evo_cell ha trivial
    refine ⟨a, .lst (vs.set k.toNat x), .lst (ds.set k.toNat d), List.mem_singleton_self a, trivial, rfl, rfl, ⟨a, _, rfl, rfl, upd_same, FReps.set (hx.stay ev fun _ m => nomatch m) _ (r.stay ev fun _ m => nomatch m)⟩, p, fun Q q => .inl ⟨a, vs, k, k.toNat, rfl, rfl, ha, ixN_of h0 (by rw [r.length]; exact h1), q⟩⟩
  · obtain ⟨a, kvs, rfl, rfl, ha, r⟩ := hr
    have ev : Evo H (upd H a (.dK (putK kvs (Sum.inl k) x))) := evo_cell ha trivial
    have hlt : kvs.length < sizeLine := by
      rw [r.length, sizeLine_eq]; omega
    refine ⟨a, .dK (putK kvs (Sum.inl k) x), .dic (dput ks k d), List.mem_singleton_self a, trivial, rfl, rfl, ⟨a, _, rfl, rfl, upd_same, DReps.put k (hx.stay ev fun _ m => nomatch m) (r.stay ev)⟩, p, fun Q q => .inr ⟨a, _, rfl, DPut.k (k := Sum.inl k) ha hlt, q⟩⟩
/-- an item of a row stored -/
theorem setM_rep {G : SG} {H : Hp} {v x : V} {a : Addr} {cs : List Addr} {F : List Addr} {rows : List (List D)} {k l : Int} {ds : List D} {d : D} {c : Addr} (hv : v = .ref a) (hF : F = a :: cs) (nd : F.Nodup) (ha : H a = some (.lst (cs.map V.ref))) (hl : cs.length = rows.length)
    (hr : ∀ (j : Nat) (c : Addr) (ds : List D), cs[j]? = some c → rows[j]? = some ds → ∃ vs, H c = some (.lst vs) ∧ FReps G H vs ds []) (hx : FRep G H x d []) (hk : rows[k.toNat]? = some ds) (hc : cs[k.toNat]? = some c) (h0 : 0 ≤ l) (h1 : l < (ds.length : Int)) :
    ∃ o, c ∈ F ∧ IsCellO o ∧ CRep G (upd H c o) v (.mat (rows.set k.toNat (ds.set l.toNat d))) F ∧ ∀ Q : Hp → Prop, Q (upd H c o) → rSetL (.ref c) (.int l) x H Q := by
  obtain ⟨vs, g1, g2⟩ := hr _ _ _ hc hk
  have ev : Evo H (upd H c (.lst (vs.set l.toNat x))) := evo_cell g1 trivial
  have mc : c ∈ cs := List.mem_of_getElem? hc
  have nd' : a ∉ cs ∧ cs.Nodup := by rw [hF] at nd; exact List.nodup_cons.mp nd
  have hac : a ≠ c := fun z => nd'.1 (by rw [z]; exact mc)
  refine ⟨.lst (vs.set l.toNat x), by rw [hF]; exact List.mem_cons_of_mem _ mc, trivial, ⟨a, cs, hv, hF, nd, by rw [upd_ne hac]; exact ha, by rw [List.length_set]; exact hl, fun j c' ds' hj hr' => ?_⟩, fun Q q => ⟨c, vs, l, l.toNat, rfl, rfl, g1, ixN_of h0 (by rw [g2.length]; exact h1), q⟩⟩
  by_cases hjk : j = k.toNat
  · subst hjk
    rw [hc] at hj
    cases hj
    rw [List.getElem?_set_self (List.getElem?_eq_some_iff.mp hk).1] at hr'
    cases hr'
    exact ⟨_, upd_same, FReps.set (hx.stay ev fun _ m => nomatch m) _ (g2.stay ev fun _ m => nomatch m)⟩
  · have hcc : c' ≠ c := fun z => by
      subst z
      have h1 := (List.getElem?_eq_some_iff.mp hj)
      have h2 := (List.getElem?_eq_some_iff.mp hc)
      obtain ⟨l1, e1⟩ := h1
      obtain ⟨l2, e2⟩ := h2
      exact hjk ((List.getElem_inj nd'.2).mp (e1.trans e2.symm))
    rw [List.getElem?_set_ne (fun z => hjk z.symm)] at hr'
    obtain ⟨vs', f1, f2⟩ := hr j c' ds' hj hr'
    exact ⟨vs', by rw [upd_ne hcc]; exact f1, f2.stay ev fun _ m => nomatch m⟩
section
variable {G : SG} {b : Bs} {g : Gh} {ts us : List R} {env : Env} {w : Wd} {σ : St} {H : Hp}
/-- an own value at hand is written and let go -/
theorem Sim.mutT (S : Sim G b g (ts ++ us) env w σ H) {k : Nat} {r : R} (hk : us[k]? = some r) (own : r.own = true) {c : Addr} {o oc : HO} (hc : c ∈ g.F (.tm (ts.length + k))) (hoc : H c = some oc) (hic : IsCellO oc) : Sim G b g ts env w σ (upd H c o) := by
  have hp : plc env (ts ++ us) w (.tm (ts.length + k)) = some (.rr r) := S.tm_at (by rw [List.getElem?_append_right (Nat.le_add_right _ _), Nat.add_sub_cancel_left, hk])
  have evo : Evo H (upd H c o) := evo_cell hoc hic
  have S0 := S.drop
  have ny : r.yy = true := by
    unfold R.own at own
    unfold R.yy
    cases hy : r.y with
    | true => rfl
    | false => rw [hy] at own; simp at own
  have nt : ∀ {x p}, plc env ts w x = some p → ∀ a ∈ g.F x, a ≠ c := fun {x p} e a m z => by
    subst z
    have hx : Pl.tm (ts.length + k) ≠ x := fun z => by
      subst z
      have e' : ts[ts.length + k]?.map PV.rr = some p := e
      rw [List.getElem?_eq_none (Nat.le_add_right _ _)] at e'
      cases e'
    exact S.dj (.tm (ts.length + k)) x _ p hp (plc_app e) own ⟨hx, fun ⟨_, _, _, z, _⟩ => by cases z⟩ a hc m
  have hc0 : b.H0 c = none := S.yg _ _ (by intro _ _ z; cases z) hp ny c hc
  refine ⟨fun x p e => (S0.rep x p e).stay evo fun a m => upd_ne (nt e a m), S0.sig, S0.dj, fun p o' e => ?_, S0.yg, S0.yf, S0.yo, fun a o' e n => ?_, fun a e => ?_, S0.len, S0.yp, S0.fy⟩
  · obtain ⟨dx, h1, h2⟩ := S0.ins p o' e
    have : p ≠ c := fun z => by rw [z, hoc] at h1; cases h1; exact hic
    exact ⟨dx, by rw [upd_ne this]; exact h1, h2⟩
  · have : a ≠ c := fun z => by rw [z, hc0] at e; cases e
    rw [upd_ne this]; exact S0.fr a o' e n
  · have : a ≠ c := fun z => by rw [z, upd_same] at e; cases e
    rw [upd_ne this] at e
    exact S0.gr a e
end
section
variable {Fn : Type} {Phi : Fn → LSp} {X : Cx} {G : SG} {b : Bs} {W : WX}
variable {e e1 e2 e3 : Expr} {m m1 m2 m3 : ME Fn} {pos p1 p2 p3 p4 apos cpos : Pos}
theorem Sim.last {g : Gh} {ts : List R} {r : R} {env : Env} {w : Wd} {σ : St} {H : Hp} (S : Sim G b g (ts ++ [r]) env w σ H) : FRep G H (g.v (.tm ts.length)) r.d (g.F (.tm ts.length)) :=
  S.rep _ _ (S.tm_at (by rw [List.getElem?_append_right (Nat.le_refl _), Nat.sub_self]; rfl))
theorem Sim.last2 {g : Gh} {ts : List R} {r r2 : R} {env : Env} {w : Wd} {σ : St} {H : Hp} (S : Sim G b g ((ts ++ [r]) ++ [r2]) env w σ H) : FRep G H (g.v (.tm ts.length)) r.d (g.F (.tm ts.length)) := by
  refine S.rep _ _ (S.tm_at ?_)
  rw [List.append_assoc, List.getElem?_append_right (Nat.le_refl _), Nat.sub_self]; rfl
theorem FRep.nil_of {H : Hp} {v : V} {d : D} {F : List Addr} (h : FRep G H v d F) (n : d.nc = true) : FRep G H v d [] := by
  have := h.nc n
  subst this
  exact h
theorem sig_eq {g g' : Gh} {ts ts' : List R} {env : Env} {w w' : Wd} {σ : St} {H H' : Hp} {i : Nat} {pc : PC} (S : Sim G b g ts env w σ H) (S' : Sim G b g' ts' env w' σ H') (he : env[i]? = some (some pc)) : g'.v (.sl i) = g.v (.sl i) := by
  have e1 := S.sig i pc he
  have e2 := S'.sig i pc he
  rw [e1] at e2
  exact (Option.some.inj (Option.some.inj e2)).symm
theorem keeps_app {g g1 : Gh} {ts us : List R} (k : Keeps g g1 (ts ++ us).length) : Keeps g g1 ts.length := fun j hj => k j (by rw [List.length_append]; omega)
theorem setIx_read {i : Nat} {D : L2.Ends} {σ : St} {H : Hp} (h : tS G b W (les Phi (.setIx i m1 m)) D σ H) :
    tAsg (tE G b W (lev Phi m)) (gSub (tVar i) (tE G b W (lev Phi m1)) (fun o i v H Q => rSetL o i v H Q ∨ rSetD o i v H Q)) D σ H := by
  obtain ⟨g, ts, env, w, K, S, hz, q, ok⟩ := h
  simp only [les] at q
  refine ⟨g, ts, env, w, _, _, S, q, fun r w1 g1 H1 q1 S1 k1 => ?_, fun x w' g' H' q S' => ok.ex q S'⟩
  obtain ⟨hn, q1⟩ := q1
  obtain ⟨pc, he, q1⟩ := onSlot_some q1
  refine ⟨g1.v (.sl i), S1.sig i pc he, ?_⟩
  refine ⟨g1, ts ++ [r], env, w1, _, _, S1, q1, fun y w2 g2 H2 q2 S2 k2 => ?_, fun x w' g' H' q S' => ok.ex q S'.drop⟩
  obtain ⟨k, hk, q2⟩ := onInt_some q2
  have hy := S2.last
  rw [hk] at hy
  have hx := S2.last2.nil_of hn
  rw [k2 ts.length (by simp)] at hx
  have hs : CRep G H2 (g2.v (.sl i)) pc (g2.F (.sl i)) := S2.rep _ _ (plc_sl he)
  obtain ⟨c, o, pc', c1, c2, c3, c4, c5, c6, c7⟩ := setK_rep hs hx q2
  rw [hy.int_of, ← sig_eq S1 S2 he]
  exact c7 _ (ok.nx c6 (S2.drop.drop.mutS hz he c3 c4 c1 c2 c5) (k1.trans (keeps_app k2)))
def noComp : Expr → Bool
  | .ListComp .. => false
  | .SetComp .. => false
  | .DictComp .. => false
  | _ => true
theorem sw_none {t : Option Expr} {l : Nat} {env : PySem.Env} (h : noComp e = true) : swapsWith e t l env = pure false := by
  cases e <;> first | rfl | cases h
theorem sw_sub {o i : Expr} {l : Nat} {env : PySem.Env} : swapsWith e (some (.Subscript o i pos)) l env = pure false := by
  cases e <;> rfl
theorem sws_sub {o i : Expr} {l : Nat} {env : PySem.Env} : swapsWithSole [.Subscript o i pos] e l env = pure false := by
  cases e <;> rfl
theorem sw_attr {o : Expr} {f : Str} {l : Nat} {env : PySem.Env} : swapsWith e (some (.Attribute o f pos)) l env = pure false := by
  cases e <;> rfl
theorem simple_asg {o i : Expr} {env : PySem.Env} (h : simple i = true) (v : Value) : assign (.Subscript o i pos) env v = (do
      let ov ← holding [v] (eval o env)
      let iv ← holding [v, ov] (eval i env)
      standAt pos
      holding [v, ov, iv] (setItem ov iv v)
      release [v, ov, iv] []) := by
  cases i <;> first | rfl | cases h
theorem ls_setIx {i : Nat} {x : Str} (T : CTx G X) (hv : PE X (.Name x p1) (tVar i)) (h : LE Phi X G b W m e) (h1 : LE Phi X G b W m1 e1) (hs : simple e1 = true) : LS Phi X G b W (.setIx i m1 m) (.Assign [.Subscript (.Name x p1) e1 p2] e pos) := by
  refine PS.imp (ps_asg h (pg_sub hv h1 (pset_or set_list (set_dict (by have := T.un; omega))) (simple_asg hs)) sws_sub) fun D σ H h => setIx_read h
/-- an index that touches nothing -/
def PureIx (Phi : Fn → LSp) (G : SG) (m : ME Fn) (t : TE) : Prop := ∀ {b : Bs} {g : Gh} {ts : List R} {env : Env} {w : Wd} {σ : St} {H : Hp} {Q : VK} {E : XKd}, Sim G b g ts env w σ H → lev Phi m env w Q E →
  ∃ v r F, Q r w ∧ FRep G H v r.d F ∧ ∀ Q' : L2.VK, Q' v H → t σ H Q'
theorem pure_var {i : Nat} : PureIx Phi G (.var i : ME Fn) (tVar i) := fun S q => by
  simp only [lev] at q
  obtain ⟨pc, he, q⟩ := onSlot_some q
  exact ⟨_, pc.toR, _, q, CRep.toR (S.rep _ _ (plc_sl he)), fun Q' q' => ⟨_, S.sig _ _ he, q'⟩⟩
theorem pure_idx {i : Nat} {n : Int} (T : CTx G X) : PureIx Phi G (.idx (.var i) (.cst (.int n)) : ME Fn) (tOp (fun x y H Q => rIxL X.K x y H Q ∨ rIxT X.K x y H Q) (tVar i) (tC (.int n))) := fun {b g ts env w σ H Q E} S q => by
  simp only [lev] at q
  obtain ⟨pc, he, q⟩ := onSlot_some q
  have hr : FRep G H _ pc.toR.d _ := CRep.toR (S.rep _ _ (plc_sl he))
  generalize pc.toR = r at q hr
  simp only [idxop, sc] at q
  cases hd : r.d with
  | lst ds =>
    rw [hd] at q hr
    cases ha : at0 ds n with
    | none => simp only [ha] at q
    | some d =>
      simp only [ha] at q
      obtain ⟨k0, hk⟩ := at0_some ha
      obtain ⟨a, vs, F', h1, h2, h3, h4⟩ := hr.lst_of
      obtain ⟨v, Fd, g1, g2, g3⟩ := h3.get hk
      exact ⟨v, _, Fd, q, g2, fun Q' q' => ⟨_, S.sig _ _ he, .inl ⟨a, vs, n, v, h1, rfl, SqL.of h2, atI_of k0 g1, q'⟩⟩⟩
  | tup ds =>
    rw [hd] at q hr
    cases ha : at0 ds n with
    | none => simp only [ha] at q
    | some d =>
      simp only [ha] at q
      obtain ⟨k0, hk⟩ := at0_some ha
      obtain ⟨a, vs, h1, h2, h3⟩ := hr.tup_of
      obtain ⟨v, Fd, g1, g2, g3⟩ := h3.get hk
      exact ⟨v, _, Fd, q, g2, fun Q' q' => ⟨_, S.sig _ _ he, .inr ⟨a, vs, n, v, h1, rfl, by rw [← T.kk]; exact h2, atI_of k0 g1, q'⟩⟩⟩
  | scr ns =>
    rw [hd] at q hr
    cases ha : at0 ns n with
    | none => simp only [ha] at q
    | some d =>
      simp only [ha] at q
      obtain ⟨k0, hk⟩ := at0_some ha
      have hv : (ns.map V.int)[n.toNat]? = some (V.int d) := by rw [List.getElem?_map, hk]; rfl
      obtain ⟨a, h1, h2⟩ := hr.scr_of
      exact ⟨_, _, [], q, .int d, fun Q' q' => ⟨_, S.sig _ _ he, .inl ⟨a, _, n, _, h1, rfl, by rw [← T.kk]; exact h2, atI_of k0 hv, q'⟩⟩⟩
  | _ => rw [hd] at q; exact q.elim
theorem setIx2_read {i : Nat} {tl : TE} {D : L2.Ends} {σ : St} {H : Hp} (T : CTx G X) (hp : PureIx Phi G m2 tl) (h : tS G b W (les Phi (.setIx2 i m1 m2 m)) D σ H) :
    tAsg (tE G b W (lev Phi m)) (gSub (tOp (rIxL X.K) (tVar i) (tE G b W (lev Phi m1))) tl rSetL) D σ H := by
  obtain ⟨g, ts, env, w, K, S, hz, q, ok⟩ := h
  simp only [les] at q
  refine ⟨g, ts, env, w, _, _, S, q, fun r w1 g1 H1 q1 S1 k1 => ?_, fun x w' g' H' q S' => ok.ex q S'⟩
  obtain ⟨hn, q1⟩ := q1
  obtain ⟨pc, he, q1⟩ := onSlot_some q1
  cases pc with
  | mat rows =>
    refine ⟨g1.v (.sl i), S1.sig i _ he, ?_⟩
    refine ⟨g1, ts ++ [r], env, w1, _, _, S1, q1, fun y w2 g2 H2 q2 S2 k2 => ?_, fun x w' g' H' q S' => ok.ex q S'.drop⟩
    obtain ⟨k, hk, q2⟩ := onInt_some q2
    obtain ⟨ds, hat, q2⟩ := onSome_some q2
    obtain ⟨k0, hkr⟩ := at0_some hat
    have hy := S2.last
    rw [hk] at hy
    obtain ⟨a, cs, s1, s2, s3, s4, s5, s6⟩ : CRep G H2 (g2.v (.sl i)) (.mat rows) (g2.F (.sl i)) := S2.rep _ _ (plc_sl he)
    have hkl : k.toNat < cs.length := by rw [s5]; exact (List.getElem?_eq_some_iff.mp hkr).1
    have hc := List.getElem?_eq_getElem hkl
    have sv := sig_eq S1 S2 he
    refine ⟨a, _, k, .ref cs[k.toNat], by rw [← sv]; exact s1, hy.int_of, SqL.of s4, atI_of k0 (by rw [List.getElem?_map, hc]; rfl), ?_⟩
    obtain ⟨v, z, F, q3, hv, fin⟩ := hp S2 q2
    obtain ⟨l, hl, l0, l1, q3⟩ := onInt_some q3
    rw [hl] at hv
    refine fin _ ?_
    have hx := S2.last2.nil_of hn
    rw [k2 ts.length (by simp)] at hx
    obtain ⟨o, c1, c2, c3, c4⟩ := setM_rep s1 s2 s3 s4 s5 s6 hx hkr hc l0 l1
    rw [hv.int_of]
    exact c4 _ (ok.nx q3 (S2.drop.drop.mutS hz he rfl rfl c1 c2 c3) (k1.trans (keeps_app k2)))
  | _ => exact q1.elim
theorem ls_setIx2 {i : Nat} {tl : TE} (T : CTx G X) (hp : PureIx Phi G m2 tl) (hv : PE X e3 (tVar i)) (h : LE Phi X G b W m e) (h1 : LE Phi X G b W m1 e1) (hs1 : PlainIx e1) (hs2 : simple e2 = true) (h2 : PE X e2 tl) :
    LS Phi X G b W (.setIx2 i m1 m2 m) (.Assign [.Subscript (.Subscript e3 e1 p3) e2 p2] e pos) :=
  PS.imp (ps_asg h (pg_sub (pe_ix ix_list hv h1 hs1) h2 set_list (simple_asg hs2)) sws_sub) fun D σ H h => setIx2_read T hp h
theorem FReps.snoc' {H : Hp} {v : V} {d : D} {vs : List V} {ds : List D} (h : FReps G H vs ds []) (q : FRep G H v d []) : FReps G H (vs ++ [v]) (ds ++ [d]) [] := h.snoc q
theorem ls_app {i : Nat} {x : Str} (hv : PE X (.Name x p1) (tVar i)) (hs1 : simple e = true) (hl : (apos.endLine == cpos.line) = true) (h : LE Phi X G b W m e)
    (hsw : swapsWith (.Call (.Attribute (.Name x p1) "append" apos) [e] [] cpos) none pos.line X.env = pure false) :
    LS Phi X G b W (.app i m) (.Expr (.Call (.Attribute (.Name x p1) "append" apos) [e] [] cpos) pos) := by
  have hss : simples [e] = true := by simp [simples, hs1]
  refine PS.imp (ps_expr (pe_bm PySem.F.plainAttrs_list PySem.F.slot_list_append PySem.F.type_list_append mt_append hv (pa_cons h pa_nil (simple_star hs1 _ _)) (simple_base rfl _ _) (simples_few hss (by simp) _ _) hl (simple_star hs1 _ _) (simples_any rfl _ _)) hsw) fun D σ H h => ?_
  obtain ⟨g, ts, env, w, K, S, hz, q, ok⟩ := h
  simp only [les] at q
  obtain ⟨pc, he, q⟩ := onSlot_some q
  cases pc with
  | lst ds =>
    refine ⟨g.v (.sl i), S.sig i _ he, ?_⟩
    obtain ⟨a, vs, s1, s2, s3, s4⟩ : CRep G H (g.v (.sl i)) (.lst ds) (g.F (.sl i)) := S.rep _ _ (plc_sl he)
    refine ⟨by rw [s1]; exact .inl ⟨rfl, vs, SqL.of s3⟩, ?_⟩
    refine ⟨g, ts, env, w, _, _, S, q, fun r w1 g1 H1 q1 S1 k1 => ?_, fun x w' g' H' q S' => ok.ex q S'⟩
    obtain ⟨hn, hlen, q1⟩ := q1
    have hx := S1.last.nil_of hn
    obtain ⟨a', vs', s1', s2', s3', s4'⟩ : CRep G H1 (g1.v (.sl i)) (.lst ds) (g1.F (.sl i)) := S1.rep _ _ (plc_sl he)
    have ev : Evo H1 (upd H1 a' (.lst (vs' ++ [g1.v (.tm ts.length)]))) := evo_cell s3' trivial
    refine ⟨a', vs', _, by rw [← sig_eq S S1 he]; exact s1', rfl, s3', by rw [s4'.length]; exact Nat.lt_of_lt_of_le hlen top_line, ?_⟩
    refine ok.nx q1 (S1.drop.mutS hz he rfl rfl (c := a') (by rw [s2']; exact List.mem_singleton_self _) trivial ?_) k1
    exact ⟨a', _, s1', s2', upd_same, (s4'.stay ev fun _ m => nomatch m).snoc (hx.stay ev fun _ m => nomatch m)⟩
  | _ => exact q.elim
theorem ls_rev {i : Nat} {x : Str} (hv : PE X (.Name x p1) (tVar i)) (hl : (apos.endLine == cpos.line) = true) (hsw : swapsWith (.Call (.Attribute (.Name x p1) "reverse" apos) [] [] cpos) none pos.line X.env = pure false) :
    LS Phi X G b W (.rev i) (.Expr (.Call (.Attribute (.Name x p1) "reverse" apos) [] [] cpos) pos) := by
  refine PS.imp (ps_expr (pe_bm0 PySem.F.plainAttrs_list PySem.F.slot_list_reverse PySem.F.type_list_reverse mt_reverse hv (simple_base rfl _ _) hl) hsw) fun D σ H h => ?_
  obtain ⟨g, ts, env, w, K, S, hz, q, ok⟩ := h
  simp only [les] at q
  obtain ⟨pc, he, q⟩ := onSlot_some q
  cases pc with
  | lst ds =>
    refine ⟨g.v (.sl i), S.sig i _ he, ?_⟩
    obtain ⟨a, vs, s1, s2, s3, s4⟩ : CRep G H (g.v (.sl i)) (.lst ds) (g.F (.sl i)) := S.rep _ _ (plc_sl he)
    refine ⟨by rw [s1]; exact .inl ⟨rfl, vs, SqL.of s3⟩, ?_⟩
    have ev : Evo H (upd H a (.lst vs.reverse)) := evo_cell s3 trivial
    refine ⟨a, vs, s1, rfl, s3, ok.nx q (S.mutS hz he rfl rfl (c := a) (by rw [s2]; exact List.mem_singleton_self _) trivial ?_) fun _ _ => rfl⟩
    exact ⟨a, _, s1, s2, upd_same, FReps.rev0 (s4.stay ev fun _ m => nomatch m) rfl⟩
  | _ => exact q.elim
theorem ls_clr {i : Nat} {x : Str} (hv : PE X (.Name x p1) (tVar i)) (hl : (apos.endLine == cpos.line) = true) (hsw : swapsWith (.Call (.Attribute (.Name x p1) "clear" apos) [] [] cpos) none pos.line X.env = pure false) :
    LS Phi X G b W (.clr i) (.Expr (.Call (.Attribute (.Name x p1) "clear" apos) [] [] cpos) pos) := by
  refine PS.imp (ps_expr (pe_bm0 PySem.F.plainAttrs_list PySem.F.slot_list_clear PySem.F.type_list_clear mt_clear hv (simple_base rfl _ _) hl) hsw) fun D σ H h => ?_
  obtain ⟨g, ts, env, w, K, S, hz, q, ok⟩ := h
  simp only [les] at q
  obtain ⟨pc, he, q⟩ := onSlot_some q
  cases pc with
  | lst ds =>
    refine ⟨g.v (.sl i), S.sig i _ he, ?_⟩
    obtain ⟨a, vs, s1, s2, s3, s4⟩ : CRep G H (g.v (.sl i)) (.lst ds) (g.F (.sl i)) := S.rep _ _ (plc_sl he)
    refine ⟨by rw [s1]; exact .inl ⟨rfl, vs, SqL.of s3⟩, ?_⟩
    refine ⟨a, vs, s1, rfl, s3, ok.nx q (S.mutS hz he rfl rfl (c := a) (by rw [s2]; exact List.mem_singleton_self _) trivial ?_) fun _ _ => rfl⟩
    exact ⟨a, _, s1, s2, upd_same, .nil⟩
  | _ => exact q.elim
theorem own_lst {r : R} {ds : List D} (hf : r.f = true) (hy : r.y = true) (hd : r.d = .lst ds) (hn : D.ncs ds = true) : r.own = true := by
  unfold R.own
  rw [hf, hy, hd]
  simp [hn]
theorem ls_appT (hs1 : simple e1 = true) (hs2 : simple e = true) (hl : (apos.endLine == cpos.line) = true) (h1 : LE Phi X G b W m1 e1) (h : LE Phi X G b W m e)
    (hsw : swapsWith (.Call (.Attribute e1 "append" apos) [e] [] cpos) none pos.line X.env = pure false) :
    LS Phi X G b W (.appT m1 m) (.Expr (.Call (.Attribute e1 "append" apos) [e] [] cpos) pos) := by
  have hss : simples [e] = true := by simp [simples, hs2]
  refine PS.imp (ps_expr (pe_bm PySem.F.plainAttrs_list PySem.F.slot_list_append PySem.F.type_list_append mt_append h1 (pa_cons h pa_nil (simple_star hs2 _ _)) (simple_base hs1 _ _) (simples_few hss (by simp) _ _) hl (simple_star hs2 _ _) (simples_any rfl _ _)) hsw) fun D σ H h => ?_
  obtain ⟨g, ts, env, w, K, S, hz, q, ok⟩ := h
  simp only [les] at q
  refine ⟨g, ts, env, w, _, _, S, q, fun r w1 g1 H1 q1 S1 k1 => ?_, fun x w' g' H' q S' => ok.ex q S'⟩
  obtain ⟨hf, hy, q1⟩ := q1
  obtain ⟨ds, hd, hn, hlen, q1⟩ := onLst_some q1
  have hr := S1.last
  rw [hd] at hr
  obtain ⟨a, vs, F', ha, hl, hr, _⟩ := hr.lst_of
  refine ⟨by rw [ha]; exact .inl ⟨rfl, vs, SqL.of hl⟩, ?_⟩
  refine ⟨g1, ts ++ [r], env, w1, _, _, S1, q1, fun y w2 g2 H2 q2 S2 k2 => ?_, fun x w' g' H' q S' => ok.ex q S'.drop⟩
  have hr2 := S2.last2
  rw [hd, k2 ts.length (by simp)] at hr2
  obtain ⟨a', vs', F2, ha', hl', hr', hF'⟩ := hr2.lst_of
  refine ⟨a', vs', _, ha', rfl, hl', by rw [hr'.length]; exact Nat.lt_of_lt_of_le hlen top_line, ?_⟩
  rw [List.append_assoc] at S2
  exact ok.nx q2 (S2.mutT (k := 0) (r := r) rfl (own_lst hf hy hd hn) (c := a') (by rw [Nat.add_zero, hF']; exact List.mem_cons_self) hl' trivial) (k1.trans (keeps_app k2))
theorem ls_clrT (hs1 : simple e1 = true) (hl : (apos.endLine == cpos.line) = true) (h1 : LE Phi X G b W m1 e1)
    (hsw : swapsWith (.Call (.Attribute e1 "clear" apos) [] [] cpos) none pos.line X.env = pure false) :
    LS Phi X G b W (.clrT m1) (.Expr (.Call (.Attribute e1 "clear" apos) [] [] cpos) pos) := by
  refine PS.imp (ps_expr (pe_bm0 PySem.F.plainAttrs_list PySem.F.slot_list_clear PySem.F.type_list_clear mt_clear h1 (simple_base hs1 _ _) hl) hsw) fun D σ H h => ?_
  obtain ⟨g, ts, env, w, K, S, hz, q, ok⟩ := h
  simp only [les] at q
  refine ⟨g, ts, env, w, _, _, S, q, fun r w1 g1 H1 q1 S1 k1 => ?_, fun x w' g' H' q S' => ok.ex q S'⟩
  obtain ⟨hf, hy, q1⟩ := q1
  obtain ⟨ds, hd, hn, q1⟩ := onLst_some q1
  have hr := S1.last
  rw [hd] at hr
  obtain ⟨a, vs, F', ha, hl, hr, hF⟩ := hr.lst_of
  refine ⟨by rw [ha]; exact .inl ⟨rfl, vs, SqL.of hl⟩, ?_⟩
  refine ⟨a, vs, ha, rfl, hl, ?_⟩
  exact ok.nx q1 (S1.mutT (k := 0) (r := r) rfl (own_lst hf hy hd hn) (c := a) (by rw [Nat.add_zero, hF]; exact List.mem_cons_self) hl trivial) k1
end
end LL
end
section
set_option Elab.async false
set_option linter.all false
set_option maxRecDepth 100000
/-! LStm5: fields are set and written; square lists. -/
namespace LL
open PySem L2
section
variable {G : SG} {b : Bs} {g : Gh} {ts us : List R} {env : Env} {w : Wd} {σ : St} {H : Hp}
theorem newFld_some {ob : Ob} {f : Fd} {x : PC} {P : Ob → Prop} (h : newFld ob f x P) : ob.fs.length < 10 ∧ fget ob.fs f = none ∧ P ⟨ob.c, fput ob.fs f x⟩ := h
end
section
variable {Fn : Type} {Phi : Fn → LSp} {X : Cx} {G : SG} {b : Bs} {W : WX}
variable {e e1 e2 e3 : Expr} {m m1 m2 m3 : ME Fn} {pos p1 p2 p3 p4 apos cpos : Pos}
/-- a new field: the value r at hand, the object x behind it -/
theorem fld_new {g g2 : Gh} {ts : List R} {r x : R} {env : Env} {w2 : Wd} {σ : St} {H2 : Hp} {K : Ends} {D : L2.Ends} {f : Fd} {pc : PC} (T : CTx G X) (ok : SOk G b W g ts K D) (kk : Keeps g g2 ts.length) (S2 : Sim G b g2 ((ts ++ [r]) ++ [x]) env w2 σ H2)
    (hc : CRep G H2 (g2.v (.tm ts.length)) pc (g2.F (.tm ts.length))) (ho : r.own = true ∨ r.d.nc = true)
    (q : onOb w2 x.d fun p ob => newFld ob f pc fun ob' => K.nx env (w2.put p ob')) :
    ∃ a C dx fs, g2.v (.tm (ts ++ [r]).length) = .ref a ∧ H2 a = some (.ins C dx fs) ∧ Cls X.K C ∧ NoAttr X.K C (fdS f) ∧ fs.length < 1000 ∧ D.nx σ (upd H2 a (.ins C dx (putF (fdS f) (g2.v (.tm ts.length)) fs))) := by
  obtain ⟨p, ob, hd, hw, q⟩ := onOb_some q
  obtain ⟨q1, q2, q3⟩ := newFld_some q
  have hx := S2.last
  rw [hd] at hx
  have ht : plc env ((ts ++ [r]) ++ [x]) w2 (.tm ts.length) = some (.rr r) := S2.tm_at (by rw [List.append_assoc, List.getElem?_append_right (Nat.le_refl _), Nat.sub_self]; rfl)
  have hy : r.yy = true := by
    rcases ho with ho | ho
    · unfold R.own at ho
      unfold R.yy
      cases hy : r.y with
      | true => rfl
      | false => rw [hy] at ho; simp at ho
    · unfold R.yy; rw [ho, Bool.or_true]
  have hrep : FRep G H2 (g2.v (.tm ts.length)) r.d (g2.F (.tm ts.length)) := S2.last2
  have c1 : ∀ a ∈ g2.F (.tm ts.length), ∀ y q, plc env ts w2 y = some q → a ∉ g2.F y := fun a m y q e m2 => by
    rcases ho with ho | ho
    · exact S2.dj (.tm ts.length) y _ q ht (plc_app (plc_app e)) ho ⟨fun z => tm_none e z.symm, fun ⟨_, _, _, z, _⟩ => by cases z⟩ a m m2
    · rw [hrep.nc ho] at m; cases m
  obtain ⟨dx, fs, h1, h2, g', k', S'⟩ := S2.drop.drop.newFld hw q2 hc c1 (fun a m => S2.yg _ _ (by intro _ _ z; cases z) ht hy a m)
  obtain ⟨_, _, _, hcl⟩ := S2.ins p ob hw
  exact ⟨p, _, dx, fs, hx.obj_of, h1, T.cls _ hcl, T.noa _ _ hcl, by omega, ok.nx q3 S' (kk.trans k')⟩
theorem setAt_read {f : Fd} {D : L2.Ends} {σ : St} {H : Hp} (T : CTx G X) (h : tS G b W (les Phi (.setAt m1 f m)) D σ H) : sFld X.K (tE G b W (lev Phi m1)) (tE G b W (lev Phi m)) (fdS f) D σ H := by
  obtain ⟨g, ts, env, w, K, S, hz, q, ok⟩ := h
  simp only [les] at q
  refine ⟨g, ts, env, w, _, _, S, q, fun r w1 g1 H1 q1 S1 k1 => ?_, fun x w' g' H' q S' => ok.ex q S'⟩
  obtain ⟨ho, q1⟩ := q1
  refine ⟨g1, ts ++ [r], env, w1, _, _, S1, q1, fun y w2 g2 H2 q2 S2 k2 => ?_, fun x w' g' H' q S' => ok.ex q S'.drop⟩
  rw [← k2 ts.length (by simp)]
  exact fld_new (pc := .val r.d true) T ok (k1.trans (keeps_app k2)) S2 S2.last2 ho q2
theorem setAtL_read {f : Fd} {D : L2.Ends} {σ : St} {H : Hp} (T : CTx G X) (h : tS G b W (les Phi (.setAtL m1 f m)) D σ H) : sFld X.K (tE G b W (lev Phi m1)) (tE G b W (lev Phi m)) (fdS f) D σ H := by
  obtain ⟨g, ts, env, w, K, S, hz, q, ok⟩ := h
  simp only [les] at q
  refine ⟨g, ts, env, w, _, _, S, q, fun r w1 g1 H1 q1 S1 k1 => ?_, fun x w' g' H' q S' => ok.ex q S'⟩
  obtain ⟨hf, hy, q1⟩ := q1
  obtain ⟨ds, hd, hn, q1⟩ := onLst_some q1
  refine ⟨g1, ts ++ [r], env, w1, _, _, S1, q1, fun y w2 g2 H2 q2 S2 k2 => ?_, fun x w' g' H' q S' => ok.ex q S'.drop⟩
  rw [← k2 ts.length (by simp)]
  have hr := S2.last2
  rw [hd] at hr
  obtain ⟨a, vs, F', ha, hl, hr, hF⟩ := hr.lst_of
  have hF' : F' = [] := hr.nc hn
  subst hF'
  exact fld_new (pc := .lst ds) T ok (k1.trans (keeps_app k2)) S2 ⟨a, vs, ha, hF, hl, hr⟩ (.inl (own_lst hf hy hd hn)) q2
theorem setAtD_read {f : Fd} {D : L2.Ends} {σ : St} {H : Hp} (T : CTx G X) (h : tS G b W (les Phi (.setAtD m1 f)) D σ H) : sFld X.K (tE G b W (lev Phi m1)) tDNewK (fdS f) D σ H := by
  obtain ⟨g, ts, env, w, K, S, hz, q, ok⟩ := h
  simp only [les] at q
  intro p hp
  have s : Same H (upd H p (.dK [])) := same_upd hp
  have S0 : Sim G b g (ts ++ []) env w σ (upd H p (.dK [])) := by rw [List.append_nil]; exact S.same s
  have fr0 := S.fresh hp
  have S1 := S0.push (r := fr (.dic [])) (v := .ref p) (F := [p]) (.dic upd_same .nil) fun a m => by
    rw [List.mem_singleton.mp m]
    refine .inr (.inl ⟨fr0.1, fun y q e => ?_⟩)
    rw [List.append_nil] at e
    exact fr0.2 y q e
  refine ⟨_, ts ++ [fr (.dic [])], env, w, _, _, S1, q, fun y w2 g2 H2 q2 S2 k2 => ?_, fun x w' g' H' q S' => ok.ex q S'.drop⟩
  have hv : g2.v (.tm ts.length) = .ref p := (k2 ts.length (by simp)).trans Gh.put_v
  rw [← hv]
  have hr := S2.last2
  obtain ⟨a, kvs, ha, hl, hr, hF⟩ := FRep.dic_of hr
  exact fld_new (pc := .dic []) T ok (fun j hj => (k2 j (by simp; omega)).trans (Gh.put_v' (by intro z; have := Pl.tm.inj z; omega))) S2 ⟨a, kvs, ha, hF, hl, hr⟩ (.inl rfl) q2
theorem ls_setAt {f : Fd} (T : CTx G X) (h : LE Phi X G b W m e) (h1 : LE Phi X G b W m1 e1) : LS Phi X G b W (.setAt m1 f m) (.Assign [.Attribute e1 (fdS f) p1] e pos) :=
  PS.imp (ps_fld h1 h sw_attr) fun D σ H h => setAt_read T h
theorem ls_setAtL {f : Fd} (T : CTx G X) (h : LE Phi X G b W m e) (h1 : LE Phi X G b W m1 e1) : LS Phi X G b W (.setAtL m1 f m) (.Assign [.Attribute e1 (fdS f) p1] e pos) :=
  PS.imp (ps_fld h1 h sw_attr) fun D σ H h => setAtL_read T h
theorem ls_setAtD {f : Fd} (T : CTx G X) (h1 : LE Phi X G b W m1 e1) : LS Phi X G b W (.setAtD m1 f) (.Assign [.Attribute e1 (fdS f) p1] (.Dict [] [] p2) pos) :=
  PS.imp (ps_fld h1 pe_dnewK sw_attr) fun D σ H h => setAtD_read T h
theorem setFIx_read {f : Fd} {k : Nat} {D : L2.Ends} {σ : St} {H : Hp} (T : CTx G X) (h : tS G b W (les Phi (.setFIx m1 f k m)) D σ H) :
    tAsg (tE G b W (lev Phi m)) (gSub (tFld X.K (tE G b W (lev Phi m1)) (fdS f)) (tVar k) (fun o i v H Q => rSetL o i v H Q ∨ rSetD o i v H Q)) D σ H := by
  obtain ⟨g, ts, env, w, K, S, hz, q, ok⟩ := h
  simp only [les] at q
  refine ⟨g, ts, env, w, _, _, S, q, fun r w1 g1 H1 q1 S1 k1 => ?_, fun x w' g' H' q S' => ok.ex q S'⟩
  obtain ⟨hn, q1⟩ := q1
  refine ⟨g1, ts ++ [r], env, w1, _, _, S1, q1, fun y w2 g2 H2 q2 S2 k2 => ?_, fun x w' g' H' q S' => ok.ex q S'.drop⟩
  obtain ⟨p, ob, pc, hd, hw, hf, q2⟩ := onFld_some q2
  have hx0 := S2.last
  rw [hd] at hx0
  rw [hx0.obj_of]
  have hx := S2.last2.nil_of hn
  rw [k2 ts.length (by simp)] at hx
  refine tFld_of (Q := fun o H1 => tVar k σ H1 fun i H2 => rSetL o i (g1.v (.tm ts.length)) H2 (fun H3 => D.nx σ H3) ∨ rSetD o i (g1.v (.tm ts.length)) H2 (fun H3 => D.nx σ H3)) T S2 hw hf ?_
  obtain ⟨k, hi, q2⟩ := slotInt_some S2 q2
  refine ⟨.int k, hi, ?_⟩
  have hs : CRep G H2 (g2.v (.fd p f)) pc (g2.F (.fd p f)) := S2.rep _ _ (plc_fd hw hf)
  obtain ⟨c, o, pc', c1, c2, c3, c4, c5, c6, c7⟩ := setK_rep hs hx q2
  exact c7 _ (ok.nx c6 (S2.drop.drop.mutF hw hf c3 c4 c1 c2 c5) (k1.trans (keeps_app k2)))
theorem ls_setFIx {f : Fd} {k : Nat} (T : CTx G X) (hb : simple e1 = true) (h : LE Phi X G b W m e) (h1 : LE Phi X G b W m1 e1) (hk : PE X e2 (tVar k)) (hs : simple e2 = true) :
    LS Phi X G b W (.setFIx m1 f k m) (.Assign [.Subscript (.Attribute e1 (fdS f) p1) e2 p2] e pos) :=
  PS.imp (ps_asg h (pg_sub (pe_fld h1 (simple_base hb _ _)) hk (pset_or set_list (set_dict (by have := T.un; omega))) (simple_asg hs)) sws_sub) fun D σ H h => setFIx_read T h
theorem setFIx2_read {f : Fd} {k l : Nat} {D : L2.Ends} {σ : St} {H : Hp} (T : CTx G X) (h : tS G b W (les Phi (.setFIx2 m1 f k l m)) D σ H) :
    tAsg (tE G b W (lev Phi m)) (gSub (tOp (rIxL X.K) (tFld X.K (tE G b W (lev Phi m1)) (fdS f)) (tVar k)) (tVar l) rSetL) D σ H := by
  obtain ⟨g, ts, env, w, K, S, hz, q, ok⟩ := h
  simp only [les] at q
  refine ⟨g, ts, env, w, _, _, S, q, fun r w1 g1 H1 q1 S1 k1 => ?_, fun x w' g' H' q S' => ok.ex q S'⟩
  obtain ⟨hn, q1⟩ := q1
  refine ⟨g1, ts ++ [r], env, w1, _, _, S1, q1, fun y w2 g2 H2 q2 S2 k2 => ?_, fun x w' g' H' q S' => ok.ex q S'.drop⟩
  obtain ⟨p, ob, pc, hd, hw, hf, q2⟩ := onFld_some q2
  have hx0 := S2.last
  rw [hd] at hx0
  rw [hx0.obj_of]
  have hx := S2.last2.nil_of hn
  rw [k2 ts.length (by simp)] at hx
  refine tFld_of (Q := fun o H1 => tVar k σ H1 fun i H2 => rIxL X.K o i H2 fun o H1 => tVar l σ H1 fun i H2 => rSetL o i (g1.v (.tm ts.length)) H2 (fun H3 => D.nx σ H3)) T S2 hw hf ?_
  cases pc with
  | mat rows =>
    obtain ⟨a, cs, s1, s2, s3, s4, s5, s6⟩ : CRep G H2 (g2.v (.fd p f)) (.mat rows) (g2.F (.fd p f)) := S2.rep _ _ (plc_fd hw hf)
    simp only [PC.onMat] at q2
    obtain ⟨k, hi, q2⟩ := slotInt_some S2 q2
    obtain ⟨ds, hat, q2⟩ := onSome_some q2
    obtain ⟨l, hj, l0, l1, q2⟩ := slotInt_some S2 q2
    obtain ⟨k0, hk⟩ := at0_some hat
    have hkl : k.toNat < cs.length := by rw [s5]; exact (List.getElem?_eq_some_iff.mp hk).1
    have hc := List.getElem?_eq_getElem hkl
    refine ⟨.int k, hi, a, _, k, .ref cs[k.toNat], s1, rfl, SqL.of s4, atI_of k0 (by rw [List.getElem?_map, hc]; rfl), .int l, hj, ?_⟩
    obtain ⟨o, c1, c2, c3, c4⟩ := setM_rep s1 s2 s3 s4 s5 s6 hx hk hc l0 l1
    exact c4 _ (ok.nx q2 (S2.drop.drop.mutF hw hf rfl rfl c1 c2 c3) (k1.trans (keeps_app k2)))
  | _ => exact q2.elim
theorem ls_setFIx2 {f : Fd} {k l : Nat} (T : CTx G X) (hb : simple e1 = true) (h : LE Phi X G b W m e) (h1 : LE Phi X G b W m1 e1) (hk : PE X e2 (tVar k)) (hs : simple e2 = true) (hl : PE X e3 (tVar l)) (hs3 : simple e3 = true) :
    LS Phi X G b W (.setFIx2 m1 f k l m) (.Assign [.Subscript (.Subscript (.Attribute e1 (fdS f) p1) e2 p2) e3 p3] e pos) :=
  PS.imp (ps_asg h (pg_sub (pe_ix ix_list (pe_fld h1 (simple_base hb _ _)) hk (simple_ix hs)) hl set_list (simple_asg hs3)) sws_sub) fun D σ H h => setFIx2_read T h

/-! ### [[d] * n for j in range(n)] -/
abbrev teSq (dv : Bool) (n : Nat) : TE := tOp rRep (tLst (tCons (tC (.bl dv)) tNil)) (tVar n)
abbrev tSq (dv : Bool) (n j : Nat) : TE := tLc (iRng1 (tCons (tVar n) tNil)) (gName j) tYes (teSq dv n) [j]
theorem flat_one {α : Type} (x : α) : ∀ n : Nat, (List.replicate n [x]).flatten = List.replicate n x
  | 0 => rfl
  | n + 1 => by rw [List.replicate_succ, List.flatten_cons, flat_one x n]; rfl
theorem sq_read {dv : Bool} {n j : Nat} {k : Int} {σ : St} {H : Hp} {Q : L2.VK} (hn : σ[n]? = some (some (.int k))) (nj : n ≠ j) (h0 : 0 ≤ k) (h1 : k ≤ 1000)
    (q : ∀ (D : Addr) (cs : List Addr) (H' : Hp), Same H H' → H D = none → (∀ c ∈ cs, H c = none ∧ H' c = some (.lst (List.replicate k.toNat (.bl dv)))) → (D :: cs).Nodup → H' D = some (.lst (cs.map V.ref)) → cs.length = k.toNat → Q (.ref D) H') : tSq dv n j σ H Q := by
  unfold tSq tLc iRng1 tCons
  refine ⟨.int k, hn, k, rfl, by omega, by omega, fun D hD => ?_⟩
  refine lc_range (Pv := fun i H' => ∃ cs : List Addr, Same H H' ∧ (∀ c ∈ cs, H c = none ∧ H' c = some (.lst (List.replicate k.toNat (.bl dv)))) ∧ (D :: cs).Nodup ∧ H' D = some (.lst (cs.map V.ref)) ∧ cs.length = i) ⟨[], same_upd hD, by simp, by simp, upd_same, rfl⟩ (fun i H' hi p => ?_) fun H' p => ?_
  · obtain ⟨cs, p1, p2, p3, p4, p5⟩ := p
    refine ⟨?_, ?_⟩
    · show (((σ.set j none).set j _).set j none) = σ.set j none
      rw [List.set_set, List.set_set]
    show teSq dv n ((σ.set j none).set j (some (.int (0 + (i : Nat))))) H' _
    unfold teSq tOp tLst tCons tC tNil tVar
    refine ⟨by rw [sizeLine_eq]; simp, fun x hx => ⟨.int k, ?_, x, k, _, rfl, rfl, upd_same, by omega, by omega, ?_, fun y hy => ?_⟩⟩
    · rw [List.set_set, List.getElem?_set_ne (fun z => nj z.symm)]
      exact hn
    · rw [sizeLine_eq]; simp; omega
    · have hxD : x ≠ D := fun z => by rw [z, p4] at hx; cases hx
      have hyx : y ≠ x := fun z => by rw [z, upd_same] at hy; cases hy
      rw [upd_ne hyx] at hy
      have hyD : y ≠ D := fun z => by rw [z, p4] at hy; cases hy
      have hyH : H y = none := by
        cases e : H y with
        | none => rfl
        | some o => rw [p1 y o e] at hy; cases hy
      have hxH : H x = none := by
        cases e : H x with
        | none => rfl
        | some o => rw [p1 x o e] at hx; cases hx
      have hDn : H D = none := hD
      refine ⟨cs.map V.ref, by rw [upd_ne hyD.symm, upd_ne hxD.symm]; exact p4, by rw [List.length_map, sizeLine_eq]; omega, cs ++ [y], ?_, ?_, ?_, ?_, by simp [p5]⟩
      · intro a o e
        have a1 : a ≠ D := fun z => by rw [z, hDn] at e; cases e
        have a2 : a ≠ y := fun z => by rw [z, hyH] at e; cases e
        have a3 : a ≠ x := fun z => by rw [z, hxH] at e; cases e
        rw [upd_ne a1, upd_ne a2, upd_ne a3]
        exact p1 a o e
      · intro c mc
        rcases List.mem_append.mp mc with mc | mc
        · obtain ⟨c1, c2⟩ := p2 c mc
          have d1 : c ≠ D := fun z => by
            have := (List.nodup_cons.mp p3).1
            rw [← z] at this
            exact this mc
          have d2 : c ≠ y := fun z => by rw [z, hy] at c2; cases c2
          have d3 : c ≠ x := fun z => by rw [z, hx] at c2; cases c2
          exact ⟨c1, by rw [upd_ne d1, upd_ne d2, upd_ne d3]; exact c2⟩
        · have := List.mem_singleton.mp mc
          subst this
          refine ⟨hyH, ?_⟩
          rw [upd_ne hyD, upd_same, flat_one]
      · obtain ⟨n1, n2⟩ := List.nodup_cons.mp p3
        have hym : y ∉ cs := fun z => by
          have := (p2 y z).2
          rw [hy] at this; cases this
        rw [List.nodup_cons]
        refine ⟨fun z => ?_, List.nodup_append.mpr ⟨n2, by simp, fun u mu v mv => ?_⟩⟩
        · rcases List.mem_append.mp z with z | z
          · exact n1 z
          · exact hyD (List.mem_singleton.mp z).symm
        · rw [List.mem_singleton.mp mv]
          exact fun z => hym (z ▸ mu)
      · rw [upd_same, List.map_append]; rfl
  · obtain ⟨cs, p1, p2, p3, p4, p5⟩ := p
    exact q D cs H' p1 hD p2 p3 p4 p5
theorem sq_rep {H' : Hp} {dv : Bool} {k : Int} {D : Addr} {cs : List Addr} (h0 : ∀ c ∈ cs, H' c = some (.lst (List.replicate k.toNat (.bl dv)))) (nd : (D :: cs).Nodup) (hD : H' D = some (.lst (cs.map V.ref))) (hl : cs.length = k.toNat) :
    CRep G H' (.ref D) (.mat (square k (.bl dv))) (D :: cs) := by
  refine ⟨D, cs, rfl, rfl, nd, hD, by rw [hl]; simp [square], fun j c ds hc hr => ⟨_, h0 c (List.mem_of_getElem? hc), ?_⟩⟩
  have hds : ds = List.replicate k.toNat (.bl dv) := by
    unfold square at hr
    exact List.eq_of_mem_replicate (List.mem_of_getElem? hr)
  subst hds
  generalize k.toNat = n
  induction n with
  | zero => exact .nil
  | succ n ih => exact FReps.cons (F := []) (F' := []) (.bl dv) ih
theorem asgM_read {i n j : Nat} {dv : Bool} {D : L2.Ends} {σ : St} {H : Hp} (h : tS G b W (les Phi (.asgM i (.bl dv) j n)) D σ H) : tAsg (tSq dv n j) (gName i) D σ H := by
  obtain ⟨g, ts, env, w, K, S, hz, q, ok⟩ := h
  simp only [les] at q
  obtain ⟨_, fs, nj, q⟩ := q
  obtain ⟨k, hn, h0, h1, q⟩ := slotInt_some S q
  show tSq dv n j σ H (fun x H1 => gName i x σ H1 D.nx)
  refine sq_read hn nj h0 h1 fun D0 cs H' s1 s2 s3 s4 s5 s6 => ?_
  have S1 := S.same s1
  have frs : ∀ a ∈ D0 :: cs, Fresh b g ts env w a := fun a m => by
    rcases List.mem_cons.mp m with e | m
    · rw [e]; exact S.fresh s2
    · exact S.fresh (s3 a m).1
  have S2 := S1.setPC (i := i) (pc := .mat (square k (.bl dv))) (sq_rep (fun c m => (s3 c m).2) s4 s5 s6) (fun a m x p e hx _ => (frs a m).2 x p e) (fun _ a m => (frs a m).ygf) (fun a m => .inl (frs a m).1)
  exact ok.nx q S2 fun j hj => Gh.put_v' (by intro z; cases z)
theorem setAtM_read {o n j : Nat} {f : Fd} {dv : Bool} {D : L2.Ends} {σ : St} {H : Hp} (T : CTx G X) (h : tS G b W (les Phi (.setAtM o f (.bl dv) j n)) D σ H) : sFld X.K (tVar o) (tSq dv n j) (fdS f) D σ H := by
  obtain ⟨g, ts, env, w, K, S, hz, q, ok⟩ := h
  simp only [les] at q
  obtain ⟨_, fs, nj, oj, q⟩ := q
  obtain ⟨k, hn, h0, h1, q⟩ := slotInt_some S q
  obtain ⟨pc, he, q⟩ := onSlot_some q
  show tSq dv n j σ H (fun y H1 => tVar o σ H1 fun x H2 => ∃ a C dx fs, x = .ref a ∧ H2 a = some (.ins C dx fs) ∧ Cls X.K C ∧ NoAttr X.K C (fdS f) ∧ fs.length < 1000 ∧ D.nx σ (upd H2 a (.ins C dx (putF (fdS f) y fs))))
  refine sq_read hn nj h0 h1 fun D0 cs H' s1 s2 s3 s4 s5 s6 => ?_
  have S1 := S.same s1
  have frs : ∀ a ∈ D0 :: cs, Fresh b g ts env w a := fun a m => by
    rcases List.mem_cons.mp m with e | m
    · rw [e]; exact S.fresh s2
    · exact S.fresh (s3 a m).1
  obtain ⟨p, ob, hd, hw, q⟩ := onOb_some q
  obtain ⟨q1, q2, q3⟩ := newFld_some q
  have hr : FRep G H' _ pc.toR.d _ := CRep.toR (S1.rep _ _ (plc_sl he))
  rw [hd] at hr
  obtain ⟨dx, fs', f1, f2, g', k', S'⟩ := S1.newFld hw q2 (sq_rep (fun c m => (s3 c m).2) s4 s5 s6) (fun a m y q e => (frs a m).2 y q e) (fun a m => (frs a m).1)
  obtain ⟨_, _, _, hcl⟩ := S.ins p ob hw
  exact ⟨g.v (.sl o), S1.sig _ _ he, p, _, dx, fs', hr.obj_of, f1, T.cls _ hcl, T.noa _ _ hcl, by omega, ok.nx q3 S' k'⟩
end
end LL
end
section
set_option Elab.async false
set_option linter.all false
set_option maxRecDepth 100000
/-! LStm6: loops, raise. -/
namespace LL
open PySem L2
section
variable {Fn : Type} {Phi : Fn → LSp} {X : Cx} {G : SG} {b : Bs} {W : WX}
variable {e e1 e2 e3 : Expr} {m m1 m2 m3 : ME Fn} {pos p1 p2 p3 p4 apos cpos : Pos}
/-- the places renamed -/
def renP (f : Nat → Nat) : Pl → Pl
  | .tm k => .tm (f k)
  | x => x
theorem Sim.ren {g : Gh} {ts us : List R} {env : Env} {w : Wd} {σ : St} {H : Hp} (S : Sim G b g ts env w σ H) (f : Nat → Nat) (hf : ∀ k r, us[k]? = some r → ts[f k]? = some r) (hi : ∀ i j, f i = f j → i = j) :
    Sim G b ⟨fun x => g.v (renP f x), fun x => g.F (renP f x)⟩ us env w σ H := by
  have hp : ∀ {x p}, plc env us w x = some p → plc env ts w (renP f x) = some p := fun {x p} e => by
    cases x with
    | sl i => exact e
    | fd q f => exact e
    | tm k =>
      have e' : us[k]?.map PV.rr = some p := e
      cases hk : us[k]? with
      | none => rw [hk] at e'; cases e'
      | some r =>
        rw [hk] at e'
        show ts[f k]?.map PV.rr = some p
        rw [hf k r hk]; exact e'
  have inj : ∀ {x y}, renP f x = renP f y → x = y := fun {x y} e => by
    cases x <;> cases y <;> first | exact e | cases e | skip
    have := hi _ _ (Pl.tm.inj e)
    rw [this]
  have nfd : ∀ {x}, (∀ q f', x ≠ .fd q f') → ∀ q f', renP f x ≠ .fd q f' := fun {x} n q f' z => by
    cases x with
    | fd q f => exact n q f rfl
    | sl i => cases z
    | tm k => cases z
  refine ⟨fun x p e => S.rep _ _ (hp e), S.sig, fun x y p q e1 e2 own ap => S.dj _ _ _ _ (hp e1) (hp e2) own ⟨fun z => ap.1 (inj z), fun ⟨i, k, r, z1, z2, z3, z4⟩ => ?_⟩, S.ins, fun x p n e => S.yg _ _ (nfd n) (hp e), fun q f p e => S.yf q f p e, S.yo, S.fr, S.gr, S.len, fun x p n e => S.yp _ _ (nfd n) (hp e), fun x p q f' pq n e y e2 => S.fy _ _ q f' pq (nfd n) (hp e) y e2⟩
  cases x with
  | sl i' =>
    cases y with
    | tm k' => exact ap.2 ⟨i', k', r, rfl, rfl, z3, z4⟩
    | sl i' => cases z2
    | fd q f => cases z2
  | tm k => cases z1
  | fd q f => cases z1
/-- the value at hand behind another one -/
theorem SOk.rt2 {g : Gh} {ts : List R} {K : Ends} {D : L2.Ends} (ok : SOk G b W g ts K D) {g' : Gh} {r r' : R} {env' : Env} {w' : Wd} {σ' : St} {H' : Hp} (q : K.rt r' w') (S' : Sim G b g' ((ts ++ [r]) ++ [r']) env' w' σ' H') : D.rt (g'.v (.tm (ts ++ [r]).length)) H' := by
  have S := S'.ren (us := ts ++ [r']) (fun k => if k < ts.length then k else k + 1) (fun k r0 e => ?_) (fun i j e => ?_)
  · have := ok.rt q S
    have e2 : renP (fun k => if k < ts.length then k else k + 1) (.tm ts.length) = .tm (ts ++ [r]).length := by
      show Pl.tm (if ts.length < ts.length then ts.length else ts.length + 1) = _
      rw [if_neg (Nat.lt_irrefl _)]; simp
    show D.rt (g'.v (.tm (ts ++ [r]).length)) H'
    rw [← e2]
    exact this
  · by_cases hk : k < ts.length
    · rw [List.getElem?_append_left hk] at e
      show ((ts ++ [r]) ++ [r'])[if k < ts.length then k else k + 1]? = some r0
      rw [if_pos hk, List.append_assoc, List.getElem?_append_left hk]; exact e
    · have hk2 : k < (ts ++ [r']).length := (List.getElem?_eq_some_iff.mp e).1
      have : k = ts.length := by simp at hk2; omega
      subst this
      rw [List.getElem?_append_right (Nat.le_refl _), Nat.sub_self] at e
      show ((ts ++ [r]) ++ [r'])[if ts.length < ts.length then ts.length else ts.length + 1]? = some r0
      rw [if_neg hk, List.getElem?_append_right (by simp)]
      simpa using e
  · split at e <;> split at e <;> omega
theorem Sim.setSc {g : Gh} {ts : List R} {env : Env} {w : Wd} {σ : St} {H : Hp} (S : Sim G b g ts env w σ H) (i : Nat) {v : V} {d : D} {y : Bool} (h : FRep G H v d []) :
    ∃ g', Keeps g g' ts.length ∧ Sim G b g' ts (env.set i (some (.val d y))) w (σ.set i (some v)) H :=
  ⟨_, (fun j hj => Gh.put_v' (by intro z; cases z)), S.setVal h (fun _ m => nomatch m) (fun _ _ m => nomatch m) fun _ m => nomatch m⟩
theorem forR_read {i : Nat} {body : MS Fn} {tb : TS} {D : L2.Ends} {σ : St} {H : Hp} {g : Gh} {ts : List R} {env : Env} {w : Wd} {K : Ends} {n : Nat} {it : Nat → Int} (htb : ∀ D σ H, tS G b W (les Phi body) D σ H → tb D σ H)
    (S : Sim G b g ts env w σ H) (hz : ∀ r ∈ ts, r.zz = true) (ok : SOk G b W g ts K D) {Inv : Nat → Env → Wd → Prop} (i0 : Inv 0 env w)
    (step : ∀ m env w, m < n → Inv m env w → les Phi body { K with nx := Inv (m + 1) } (env.set i (some (.val (.int (it m)) true))) w) (fin : ∀ env w, Inv n env w → K.nx env w) :
    ∃ Pv : Nat → St → Hp → Prop, Pv 0 σ H ∧ (∀ m σ H, m < n → Pv m σ H → gName i (.int (it m)) σ H fun σ2 H2 => tb { D with nx := Pv (m + 1), ct := Pv (m + 1), bk := D.nx } σ2 H2) ∧ ∀ σ H, Pv n σ H → D.nx σ H := by
  refine ⟨fun m σ H => ∃ g' env' w', Sim G b g' ts env' w' σ H ∧ Keeps g g' ts.length ∧ Inv m env' w', ⟨g, env, w, S, fun _ _ => rfl, i0⟩, fun m σ1 H1 hm q => ?_, fun σ1 H1 q => ?_⟩
  · obtain ⟨g1, env1, w1, S1, k1, q1⟩ := q
    obtain ⟨g2, k2, S2⟩ := S1.setSc i (y := true) (.int (it m))
    refine htb _ _ _ ⟨g2, ts, _, w1, _, S2, hz, step m env1 w1 hm q1, ⟨fun {g' env' w' σ' H'} q S' k' => ?_, ok.rt, ok.ex⟩⟩
    exact ⟨g', env', w', S', (k1.trans k2).trans k', q⟩
  · obtain ⟨g1, env1, w1, S1, k1, q1⟩ := q
    exact ok.nx (fin _ _ q1) S1 k1
theorem ls_forR1 {i : Nat} {x : Str} {body : MS Fn} {ss : List Stmt} (T : CTx G X) (hp : PassesOwn (model X.prog X.w) X.A X.env X.xe) (hc : X.calm = true) (hN : X.N.Nodup) (hsl : Slo X i x) (hg : Gl X "range") (hs1 : simple e1 = true) (h1 : LE Phi X G b W m1 e1) (hb : LSs Phi X G b W body ss) :
    LS Phi X G b W (.forR i (.cst (.int 0)) m1 body) (.For (.Name x p1) (.Call (.Name "range" p2) [e1] [] cpos) ss [] pos) := by
  refine PS.imp (ps_for hp hc (pi_range1 hg (T.mgN _ (by decide +kernel)) (pa_cons h1 pa_nil (simple_star hs1 _ _)) (simple_star hs1 _ _)) (pg_name hN hsl.hi hsl.loc hsl.fn) hb (fun _ => rfl)) fun D σ H h => ?_
  obtain ⟨g, ts, env, w, K, S, hz, q, ok⟩ := h
  simp only [les, lev] at q
  unfold tFor iRng1 tCons
  refine ⟨g, ts, env, w, _, _, S, q, fun r w1 g1 H1 q1 S1 k1 => ?_, fun x w' g' H' q S' => ok.ex q S'⟩
  obtain ⟨k, hd, _, _, b0, b1, Inv, i0, step, fin⟩ := onInt_some (show LL.D.onInt r.d _ from q1)
  have hr := S1.last
  rw [hd] at hr
  refine ⟨k, by rw [hr.int_of], by omega, by omega, ?_⟩
  rw [Int.sub_zero] at step fin
  obtain ⟨Pv, a1, a2, a3⟩ := forR_read (it := fun m => 0 + (m : Int)) (fun D σ H h => h) S1.drop hz (ok.keep k1) i0 step fin
  exact for_range Pv a1 a2 a3
theorem ls_forR2 {i : Nat} {x : Str} {body : MS Fn} {ss : List Stmt} (T : CTx G X) (hp : PassesOwn (model X.prog X.w) X.A X.env X.xe) (hc : X.calm = true) (hN : X.N.Nodup) (hsl : Slo X i x) (hg : Gl X "range") (hs1 : simple e1 = true) (hs2 : simple e2 = true) (h1 : LE Phi X G b W m1 e1) (h2 : LE Phi X G b W m2 e2) (hb : LSs Phi X G b W body ss) :
    LS Phi X G b W (.forR i m1 m2 body) (.For (.Name x p1) (.Call (.Name "range" p2) [e1, e2] [] cpos) ss [] pos) := by
  refine PS.imp (ps_for hp hc (pi_range2 hg (T.mgN _ (by decide +kernel)) (pa_cons h1 (pa_cons h2 pa_nil (simple_star hs2 _ _)) (simple_star hs1 _ _)) (by rw [simple_star hs1, simple_star hs2]; rfl) (simple_star hs2 _ _)) (pg_name hN hsl.hi hsl.loc hsl.fn) hb (fun _ => rfl)) fun D σ H h => ?_
  obtain ⟨g, ts, env, w, K, S, hz, q, ok⟩ := h
  simp only [les] at q
  unfold tFor iRng2 tCons
  refine ⟨g, ts, env, w, _, _, S, q, fun r w1 g1 H1 q1 S1 k1 => ?_, fun x w' g' H' q S' => ok.ex q S'⟩
  refine ⟨g1, ts ++ [r], env, w1, _, _, S1, q1, fun r2 w2 g2 H2 q2 S2 k2 => ?_, fun x w' g' H' q S' => ok.ex q S'.drop⟩
  obtain ⟨a, hd, q2⟩ := onInt_some q2
  obtain ⟨c, hd2, a0, a1, b0, b1, Inv, i0, step, fin⟩ := onInt_some q2
  have hr := S2.last2
  rw [hd, k2 ts.length (by simp)] at hr
  have hr2 := S2.last
  rw [hd2] at hr2
  refine ⟨a, c, by rw [hr.int_of, hr2.int_of], ⟨by omega, by omega, by omega, by omega⟩, ?_⟩
  obtain ⟨Pv, a1, a2, a3⟩ := forR_read (it := fun m => a + (m : Int)) (fun D σ H h => h) S2.drop.drop hz (ok.keep (k1.trans (keeps_app k2))) i0 step fin
  exact for_range Pv a1 a2 a3
theorem ls_forD {i : Nat} {x : Str} {body : MS Fn} {ss : List Stmt} {j1 j2 : Nat} {q1 q2 q3 q4 : Pos} (T : CTx G X) (hp : PassesOwn (model X.prog X.w) X.A X.env X.xe) (hc : X.calm = true) (hN : X.N.Nodup) (hsl : Slo X i x) (hg : Gl X "range") (hs1 : simple e1 = true) (h1 : LE Phi X G b W m1 e1) (hb : LSs Phi X G b W body ss) :
    LS Phi X G b W (.forD i m1 body) (.For (.Name x p1) (.Call (.Name "range" p2) [e1, .UnaryOp .USub (.Constant (.int 1) j1 q1) q2, .UnaryOp .USub (.Constant (.int 1) j2 q3) q4] [] cpos) ss [] pos) := by
  refine PS.imp (ps_for hp hc (pi_range3 hg (T.mgN _ (by decide +kernel)) (pa_cons h1 (pa_cons (pe_un un_neg pe_int) (pa_cons (pe_un un_neg pe_int) pa_nil)) (simple_star hs1 _ _)) (simple_star hs1 _ _)) (pg_name hN hsl.hi hsl.loc hsl.fn) hb (fun _ => rfl)) fun D σ H h => ?_
  obtain ⟨g, ts, env, w, K, S, hz, q, ok⟩ := h
  simp only [les] at q
  unfold tFor iRng3 tCons
  refine ⟨g, ts, env, w, _, _, S, q, fun r w1 g1 H1 q1 S1 k1 => ?_, fun x w' g' H' q S' => ok.ex q S'⟩
  obtain ⟨k, hd, b0, b1, Inv, i0, step, fin⟩ := onInt_some q1
  have hr := S1.last
  rw [hd] at hr
  refine ⟨1, rfl, 1, rfl, k, -1, -1, _, by rw [hr.int_of], RgC.neg (by omega) (by omega) (by omega) (by omega), ?_⟩
  have hn : (k - -1).toNat = (k + 1).toNat := by rw [show k - -1 = k + 1 by omega]
  rw [hn]
  obtain ⟨Pv, a1, a2, a3⟩ := forR_read (it := fun m => k - (m : Int)) (fun D σ H h => h) S1.drop hz (ok.keep k1) i0 step fin
  refine for_rangeC Pv a1 (fun m σ H hm p => ?_) a3
  have := a2 m σ H hm p
  rw [show k + (m : Int) * -1 = k - (m : Int) by omega]
  exact this
/-- one turn over a list or a tuple at hand -/
theorem forL_turn {i : Nat} {g g1 : Gh} {ts : List R} {r : R} {env : Env} {w : Wd} {σ : St} {H : Hp} {ds : List D} {d : D} {x : V} {F : List Addr} (S1 : Sim G b g1 (ts ++ [r]) env w σ H) (hz : r.z = true) (hx : FRep G H x d F) (hF : ∀ a ∈ F, a ∈ g1.F (.tm ts.length)) (ho : r.own = true → F = []) :
    ∃ g2, Keeps g1 g2 (ts ++ [r]).length ∧ Sim G b g2 (ts ++ [r]) (env.set i (some (.val d (r.y || d.nc)))) w (σ.set i (some x)) H := by
  have ht : plc env (ts ++ [r]) w (.tm ts.length) = some (.rr r) := S1.tm_at (by rw [List.getElem?_append_right (Nat.le_refl _), Nat.sub_self]; rfl)
  refine ⟨_, (fun j hj => Gh.put_v' (by intro z; cases z)), S1.setVal hx (fun a m y p e hy own m2 => ?_) (fun hyy a m => ?_) (fun a m => S1.yp _ _ (by intro _ _ z; cases z) ht a (hF a m))⟩
  · by_cases hty : y = .tm ts.length
    · subst hty
      rw [ht] at e
      have e := Option.some.inj e
      rw [← e] at own
      rw [ho own] at m
      cases m
    · exact S1.dj y (.tm ts.length) p _ e ht own ⟨hty, fun ⟨_, _, r2, _, _, e2, z⟩ => by
        have := PV.rr.inj e2
        rw [← this] at z
        unfold R.zz at z
        rw [hz] at z
        cases z⟩ a m2 (hF a m)
  · have hnc : d.nc = false := nc_of_cell hx m
    rw [hnc, Bool.or_false] at hyy
    exact S1.ygf _ _ (by intro _ _ z; cases z) ht (by show (r.y || r.d.nc) = true; rw [hyy]; rfl) a (hF a m)
theorem ls_forL {i : Nat} {x : Str} {body : MS Fn} {ss : List Stmt} (T : CTx G X) (hp : PassesOwn (model X.prog X.w) X.A X.env X.xe) (hc : X.calm = true) (hN : X.N.Nodup) (hsl : Slo X i x) (hs1 : simple e1 = true) (h1 : LE Phi X G b W m1 e1) (hb : LSs Phi X G b W body ss) :
    LS Phi X G b W (.forL i m1 body) (.For (.Name x p1) e1 ss [] pos) := by
  refine PS.imp (ps_for hp hc (pi_list h1) (pg_name hN hsl.hi hsl.loc hsl.fn) hb (fun _ => simple_fold hs1 _ _)) fun D σ H h => ?_
  obtain ⟨g, ts, env, w, K, S, hz, q, ok⟩ := h
  simp only [les] at q
  unfold tFor iList
  refine ⟨g, ts, env, w, _, _, S, q, fun r w1 g1 H1 q1 S1 k1 => ?_, fun x w' g' H' q S' => ok.ex q S'⟩
  obtain ⟨hrz, q1⟩ := q1
  obtain ⟨ds, hd, Inv, i0, step, fin⟩ := onLst_some q1
  have hr := S1.last
  rw [hd] at hr
  obtain ⟨a, vs, F', ha, hvs, hrs, _⟩ := hr.lst_of
  refine ⟨a, ha, ⟨vs, SqL.of hvs⟩, ?_⟩
  refine ⟨fun m n σ H => n = ds.length - m ∧ m ≤ ds.length ∧ ∃ g' env' w', Sim G b g' (ts ++ [r]) env' w' σ H ∧ Keeps g1 g' (ts ++ [r]).length ∧ Inv m env' w', ⟨_, rfl, Nat.zero_le _, g1, env, w1, S1, fun _ _ => rfl, i0⟩, ?_⟩
  rintro m n σ1 H2 ⟨rfl, hm, g2, env2, w2, S2, k2, q2⟩
  have hr2 := S2.last
  rw [hd, k2 ts.length (by simp), ha] at hr2
  obtain ⟨a', vs', F2, e1, e2, e3, e4⟩ := hr2.lst_of
  have := V.ref.inj e1
  subst this
  by_cases hlt : m < ds.length
  · have hdm := List.getElem?_eq_getElem hlt
    obtain ⟨v, Fv, f1, f2, f3⟩ := e3.get hdm
    refine .inr ⟨⟨vs', v, SqL.of e2, f1⟩, fun σ' H' => m + 1 ≤ ds.length ∧ ∃ g' env' w', Sim G b g' (ts ++ [r]) env' w' σ' H' ∧ Keeps g1 g' (ts ++ [r]).length ∧ Inv (m + 1) env' w', fun σ' H' p => ⟨_, by omega, rfl, p⟩, fun x H' y => ?_⟩
    obtain ⟨rfl, y⟩ := y
    have hx := y vs' (SqL.of e2)
    rw [f1] at hx
    have hx := Option.some.inj hx
    subst hx
    obtain ⟨g3, k3, S3⟩ := forL_turn (i := i) (ds := ds) (g := g) S2 hrz f2 (fun a m => by rw [e4]; exact List.mem_cons_of_mem _ (f3 a m)) (fun ho => by
      unfold R.own at ho
      rw [hd] at ho
      have hn : LL.D.ncs ds = true := by
        have ho : (r.f && r.y && LL.D.ncs ds) = true := ho
        simp at ho; exact ho.2
      have := e3.nc hn
      rw [this] at f3
      exact List.eq_nil_iff_forall_not_mem.mpr fun a m => nomatch f3 a m)
    refine ⟨g3, ts ++ [r], _, w2, _, S3, fun r' mr => ?_, step m _ env2 w2 hdm q2, ⟨fun {g' env' w' σ' H'} q S' k' => ⟨hlt, g', env', w', S', (k2.trans k3).trans k', q⟩, fun q S' => SOk.rt2 (ok.keep k1) q S', fun q S' => ok.ex q S'.drop⟩⟩
    · rcases List.mem_append.mp mr with mr | mr
      · exact hz r' mr
      · rw [List.mem_singleton.mp mr]; unfold R.zz; rw [hrz]; rfl
  · have hm' : m = ds.length := by omega
    subst hm'
    exact .inl ⟨⟨vs', SqL.of e2, by rw [e3.length]; exact Nat.le_refl _⟩, ok.nx (fin _ _ q2) S2.drop (k1.trans (keeps_app k2))⟩
theorem ls_forT {i : Nat} {x : Str} {body : MS Fn} {ss : List Stmt} (T : CTx G X) (hp : PassesOwn (model X.prog X.w) X.A X.env X.xe) (hc : X.calm = true) (hN : X.N.Nodup) (hsl : Slo X i x) (hs1 : simple e1 = true) (h1 : LE Phi X G b W m1 e1) (hb : LSs Phi X G b W body ss) :
    LS Phi X G b W (.forT i m1 body) (.For (.Name x p1) e1 ss [] pos) := by
  refine PS.imp (ps_for hp hc (pi_tup h1) (pg_name hN hsl.hi hsl.loc hsl.fn) hb (fun _ => simple_fold hs1 _ _)) fun D σ H h => ?_
  obtain ⟨g, ts, env, w, K, S, hz, q, ok⟩ := h
  simp only [les] at q
  unfold tFor iTup
  refine ⟨g, ts, env, w, _, _, S, q, fun r w1 g1 H1 q1 S1 k1 => ?_, fun x w' g' H' q S' => ok.ex q S'⟩
  obtain ⟨hrz, q1⟩ := q1
  obtain ⟨ds, hd, Inv, i0, step, fin⟩ := onTup_some q1
  have hr := S1.last
  rw [hd] at hr
  obtain ⟨a, vs, ha, hvs, hrs⟩ := hr.tup_of
  rw [T.kk] at hvs
  refine ⟨a, ha, ⟨vs, hvs⟩, ?_⟩
  refine ⟨fun m n σ H => n = ds.length - m ∧ m ≤ ds.length ∧ ∃ g' env' w', Sim G b g' (ts ++ [r]) env' w' σ H ∧ Keeps g1 g' (ts ++ [r]).length ∧ Inv m env' w', ⟨_, rfl, Nat.zero_le _, g1, env, w1, S1, fun _ _ => rfl, i0⟩, ?_⟩
  rintro m n σ1 H2 ⟨rfl, hm, g2, env2, w2, S2, k2, q2⟩
  have hr2 := S2.last
  rw [hd, k2 ts.length (by simp), ha] at hr2
  obtain ⟨a', vs', e1, e2, e3⟩ := hr2.tup_of
  have := V.ref.inj e1
  subst this
  rw [T.kk] at e2
  by_cases hlt : m < ds.length
  · have hdm := List.getElem?_eq_getElem hlt
    obtain ⟨v, Fv, f1, f2, f3⟩ := e3.get hdm
    refine .inr ⟨⟨vs', v, e2, f1⟩, fun σ' H' => m + 1 ≤ ds.length ∧ ∃ g' env' w', Sim G b g' (ts ++ [r]) env' w' σ' H' ∧ Keeps g1 g' (ts ++ [r]).length ∧ Inv (m + 1) env' w', fun σ' H' p => ⟨_, by omega, rfl, p⟩, fun x H' y => ?_⟩
    obtain ⟨rfl, y⟩ := y
    have hx := y vs' e2
    rw [f1] at hx
    have hx := Option.some.inj hx
    subst hx
    obtain ⟨g3, k3, S3⟩ := forL_turn (i := i) (ds := ds) (g := g) S2 hrz f2 (fun a m => f3 a m) (fun ho => by
      unfold R.own at ho
      rw [hd] at ho
      simp at ho)
    refine ⟨g3, ts ++ [r], _, w2, _, S3, fun r' mr => ?_, step m _ env2 w2 hdm q2, ⟨fun {g' env' w' σ' H'} q S' k' => ⟨hlt, g', env', w', S', (k2.trans k3).trans k', q⟩, fun q S' => SOk.rt2 (ok.keep k1) q S', fun q S' => ok.ex q S'.drop⟩⟩
    · rcases List.mem_append.mp mr with mr | mr
      · exact hz r' mr
      · rw [List.mem_singleton.mp mr]; unfold R.zz; rw [hrz]; rfl
  · have hm' : m = ds.length := by omega
    subst hm'
    exact .inl ⟨⟨vs', e2, by rw [e3.length]; exact Nat.le_refl _⟩, ok.nx (fin _ _ q2) S2.drop (k1.trans (keeps_app k2))⟩
theorem ls_while {body : MS Fn} {ss : List Stmt} {j : Nat} (hp : PassesOwn (model X.prog X.w) X.A X.env X.xe) (hb : LSs Phi X G b W body ss) :
    LS Phi X G b W (.whileT body) (.While (.Constant (.bool true) j p1) ss [] pos) := by
  refine PS.imp (ps_while hp (pt_val pe_bl) hb) fun D σ H h => ?_
  obtain ⟨g, ts, env, w, K, S, hz, q, ok⟩ := h
  simp only [les] at q
  obtain ⟨Inv, ⟨m0, i0⟩, step⟩ := q
  refine ⟨fun m σ H => ∃ g' env' w', Sim G b g' ts env' w' σ H ∧ Keeps g g' ts.length ∧ Inv m env' w', ⟨m0, g, env, w, S, fun _ _ => rfl, i0⟩, ?_⟩
  rintro m σ1 H1 ⟨g1, env1, w1, S1, k1, q1⟩
  refine ⟨true, rfl, iteT ?_⟩
  refine ⟨fun σ' H' => ∃ m', m' < m ∧ ∃ g' env' w', Sim G b g' ts env' w' σ' H' ∧ Keeps g g' ts.length ∧ Inv m' env' w', fun σ' H' p => p, ?_⟩
  refine ⟨g1, ts, env1, w1, _, S1, hz, step m env1 w1 q1, ⟨fun {g' env' w' σ' H'} q S' k' => ?_, ok.rt, ok.ex⟩⟩
  obtain ⟨m', lt, q⟩ := q
  exact ⟨m', lt, g', env', w', S', k1.trans k', q⟩
/-- an error class of the program -/
structure ExAt (X : Cx) (G : SG) (x : Ex) (nm : Str) : Prop where
  ex : ∃ bmB B newId initId, PySem.ExcBaseFacts B newId initId bmB ∧ PySem.W.excIn X.K (G.xc x) bmB newId = true
  mg : X.mg nm = some (.ref (G.xc x))
  kp : PySem.W.keepIn X.K (.ref (G.xc x)) = true
  r : Raises X (.ref (G.xc x))
theorem ls_raise {x : Ex} {nm s : Str} {j : Nat} (hc : X.calm = true) (tk : Takes X W) (F : ExAt X G x nm) (hg : Gl X nm) (hdb : (nm == ("__debug__" : Str)) = false) :
    LS Phi X G b W (.raise x) (.Raise (some (.Call (.Name nm p1) [.Constant (.str s) j p2] [] cpos)) none pos) := by
  obtain ⟨bmB, B, n1, n2, F1, F2⟩ := F.ex
  refine PS.imp (ps_raise hc tk (pmk_ownA F1 F2 F.mg F.kp F.r hg (pa_cons pe_str pa_nil) hdb)) fun D σ H h => ?_
  obtain ⟨g, ts, env, w, K, S, hz, q, ok⟩ := h
  simp only [les] at q
  exact ⟨by rw [sizeLine_eq]; simp, ok.ex q S⟩
end
end LL
end
section
set_option Elab.async false
set_option linter.all false
set_option maxRecDepth 100000
/-! LStm7: try, and what the suite asks of the exception. -/
namespace LL
open PySem L2
section
variable {G G' : SG} {H : Hp}
mutual
theorem FRep.conv (hK : G'.K = G.K) : ∀ {v : V} {d : D} {F : List Addr}, FRep G H v d F → d.nox = true → FRep G' H v d F
  | _, _, _, .non, _ => .non
  | _, _, _, .bl b, _ => .bl b
  | _, _, _, .int i, _ => .int i
  | _, _, _, .tg t, _ => .tg t
  | _, _, _, .obj a, _ => .obj a
  | _, _, _, .exc h, e => by simp [D.nox] at e
  | _, _, _, .tup h r, e => .tup (by rw [hK]; exact h) (FReps.conv hK r (by simpa [D.nox] using e))
  | _, _, _, .lst h r, e => .lst h (FReps.conv hK r (by simpa [D.nox] using e))
  | _, _, _, .dic h r, e => .dic h (DReps.conv hK r (by simpa [D.nox] using e))
  | _, _, _, .scr h, _ => .scr (by rw [hK]; exact h)
  | _, _, _, .scr' h, _ => .scr' h
  | _, _, _, .hid h, _ => .hid h
theorem FReps.conv (hK : G'.K = G.K) : ∀ {vs : List V} {ds : List D} {F : List Addr}, FReps G H vs ds F → D.noxs ds = true → FReps G' H vs ds F
  | _, _, _, .nil, _ => .nil
  | _, _, _, .cons r t, e => by
    have e' := e
    simp only [D.noxs, Bool.and_eq_true] at e'
    exact .cons (FRep.conv hK r e'.1) (FReps.conv hK t e'.2)
theorem DReps.conv (hK : G'.K = G.K) : ∀ {kvs : List (Key × V)} {ks : List (Int × D)}, DReps G H kvs ks → D.noxk ks = true → DReps G' H kvs ks
  | _, _, .nil, _ => .nil
  | _, _, .cons r t, e => by
    have e' := e
    simp only [D.noxk, Bool.and_eq_true] at e'
    exact .cons (FRep.conv hK r e'.1) (DReps.conv hK t e'.2)
end
mutual
theorem FRep.nox (hx : G.xa = none) : ∀ {v : V} {d : D} {F : List Addr}, FRep G H v d F → d.nox = true
  | _, _, _, .non => rfl
  | _, _, _, .bl b => rfl
  | _, _, _, .int i => rfl
  | _, _, _, .tg t => rfl
  | _, _, _, .obj a => rfl
  | _, _, _, .exc h => by rw [hx] at h; cases h
  | _, _, _, .tup h r => by simpa [D.nox] using FReps.nox hx r
  | _, _, _, .lst h r => by simpa [D.nox] using FReps.nox hx r
  | _, _, _, .dic h r => by simpa [D.nox] using DReps.nox hx r
  | _, _, _, .scr h => rfl
  | _, _, _, .scr' h => rfl
  | _, _, _, .hid h => rfl
theorem FReps.nox (hx : G.xa = none) : ∀ {vs : List V} {ds : List D} {F : List Addr}, FReps G H vs ds F → D.noxs ds = true
  | _, _, _, .nil => rfl
  | _, _, _, .cons r t => by
    simp only [D.noxs, Bool.and_eq_true]
    exact ⟨FRep.nox hx r, FReps.nox hx t⟩
theorem DReps.nox (hx : G.xa = none) : ∀ {kvs : List (Key × V)} {ks : List (Int × D)}, DReps G H kvs ks → D.noxk ks = true
  | _, _, .nil => rfl
  | _, _, .cons r t => by
    simp only [D.noxk, Bool.and_eq_true]
    exact ⟨FRep.nox hx r, DReps.nox hx t⟩
end
def PV.nox : PV → Bool
  | .pc x => x.nox
  | .rr r => r.d.nox
theorem mat_nox (hx : G.xa = none) {rows : List (List D)} {cs : List Addr} (hl : cs.length = rows.length) (r : ∀ (j : Nat) (c : Addr) (ds : List D), cs[j]? = some c → rows[j]? = some ds → ∃ vs, H c = some (.lst vs) ∧ FReps G H vs ds []) : rows.all D.noxs = true := by
  refine List.all_eq_true.mpr fun ds m => ?_
  obtain ⟨j, hj⟩ := List.getElem?_of_mem m
  have hjl : j < cs.length := by rw [hl]; exact (List.getElem?_eq_some_iff.mp hj).1
  obtain ⟨vs, _, q⟩ := r j _ ds (List.getElem?_eq_getElem hjl) hj
  exact q.nox hx
theorem PRep.nox (hx : G.xa = none) {v : V} {p : PV} {F : List Addr} (h : PRep G H v p F) : p.nox = true := by
  cases p with
  | rr r => exact FRep.nox hx h
  | pc x =>
    cases x with
    | val d y => exact FRep.nox hx h
    | lst ds => obtain ⟨a, vs, _, _, _, r⟩ := h; exact r.nox hx
    | dic ks => obtain ⟨a, vs, _, _, _, r⟩ := h; exact r.nox hx
    | mat rows => obtain ⟨a, cs, _, _, _, _, hl, r⟩ := h; exact mat_nox hx hl r
theorem PRep.conv (hK : G'.K = G.K) {v : V} {p : PV} {F : List Addr} (h : PRep G H v p F) (n : p.nox = true) : PRep G' H v p F := by
  cases p with
  | rr r => exact FRep.conv hK h n
  | pc x =>
    cases x with
    | val d y => exact FRep.conv hK h n
    | lst ds => obtain ⟨a, vs, e1, e2, e3, r⟩ := h; exact ⟨a, vs, e1, e2, e3, r.conv hK n⟩
    | dic ks => obtain ⟨a, vs, e1, e2, e3, r⟩ := h; exact ⟨a, vs, e1, e2, e3, r.conv hK n⟩
    | mat rows =>
      obtain ⟨a, cs, e1, e2, e3, e4, hl, r⟩ := h
      refine ⟨a, cs, e1, e2, e3, e4, hl, fun j c ds hc hr => ?_⟩
      obtain ⟨vs, q1, q2⟩ := r j c ds hc hr
      exact ⟨vs, q1, q2.conv hK (List.all_eq_true.mp n ds (List.mem_of_getElem? hr))⟩
variable {b : Bs} {g : Gh} {ts : List R} {env : Env} {w : Wd} {σ : St}
theorem Sim.conv (hK : G'.K = G.K) (hca : G'.ca = G.ca) (hhc : G'.hc = G.hc) (S : Sim G b g ts env w σ H) (hn : ∀ x p, plc env ts w x = some p → p.nox = true) : Sim G' b g ts env w σ H :=
  ⟨fun x p e => (S.rep x p e).conv hK (hn x p e), S.sig, S.dj, fun p o e => by rw [hca, hhc]; exact S.ins p o e, S.yg, S.yf, S.yo, S.fr, S.gr, S.len, S.yp, S.fy⟩
theorem Env.nox_get (h : Env.nox env = true) {i : Nat} {pc : PC} (e : env[i]? = some (some pc)) : pc.nox = true := List.all_eq_true.mp h _ (List.mem_of_getElem? e)
end
section
variable {Fn : Type} {Phi : Fn → LSp} {X : Cx} {G : SG} {b : Bs} {W : WX}
variable {e e1 e2 e3 : Expr} {m m1 m2 m3 : ME Fn} {pos p1 p2 p3 p4 apos cpos : Pos}
abbrev SG.with (G : SG) (a : Addr) (x : Ex) : SG := { G with xa := some (a, x) }
/-- at the top of a def's body: nothing at hand -/
def tS0 (G : SG) (b : Bs) (W : WX) (τ : Ends → Env → Wd → Prop) : TS := fun D σ H => ∃ g env w K,
  Sim G b g [] env w σ H ∧ τ K env w ∧ SOk G b W g [] K D
abbrev LS0 (Phi : Fn → LSp) (X : Cx) (G : SG) (b : Bs) (W : WX) (m : MS Fn) (s : Stmt) : Prop := PS X s (tS0 G b W (les Phi m))
abbrev LSs0 (Phi : Fn → LSp) (X : Cx) (G : SG) (b : Bs) (W : WX) (m : MS Fn) (s : List Stmt) : Prop := PSs X s (tS0 G b W (les Phi m))
theorem ls0_of {m : MS Fn} {s : Stmt} (h : LS Phi X G b W m s) : LS0 Phi X G b W m s := PS.imp h fun D σ H ⟨g, env, w, K, S, q, ok⟩ => ⟨g, [], env, w, K, S, (fun _ z => nomatch z), q, ok⟩
theorem lss0_of {m : MS Fn} {s : List Stmt} (h : LSs Phi X G b W m s) : LSs0 Phi X G b W m s := PSs.imp h fun D σ H ⟨g, env, w, K, S, q, ok⟩ => ⟨g, [], env, w, K, S, (fun _ z => nomatch z), q, ok⟩
theorem ls0_cons {a c : MS Fn} {s : Stmt} {ss : List Stmt} (h1 : LS0 Phi X G b W a s) (h2 : LSs0 Phi X G b W c ss) : LSs0 Phi X G b W (.seq a c) (s :: ss) :=
  PSs.imp (pss_cons h1 h2) fun D σ H ⟨g, env, w, K, S, q, ok⟩ => by
    simp only [les] at q
    exact ⟨g, env, w, _, S, q, ⟨fun {g' env' w' σ' H'} q S' k => ⟨g', env', w', K, S', q, ok.keep k⟩, ok.rt, ok.ex⟩⟩
theorem ls_try {i : Nat} {n nc : Str} {c : Value} {body suite : MS Fn} {ss : List Stmt} {s0 : Stmt} {ss2 : List Stmt} (hxa : G.xa = none) (hs : X.stack = X.env :: X.outer) (hf : X.env.frame = some X.env.locals) (hN : X.N.Nodup) (hsl : Slo X i n) (hln : X.env.kindOf n = some .local) (hc : Names X nc c) (tk : Takes X W)
    (hexm : ∀ x, PySem.W.exmOne X.K (.ref (G.xc x)) c = some true)
    (hb : ∀ (W' : WX) (pn : List (Addr × Obj)) (xe : Value → Shared → Prop), Takes (X.tr pn xe) W' → PassesOwn (model X.prog X.w) X.A X.env xe → LSs Phi (X.tr pn xe) G b W' body ss)
    (hsu : ∀ (x : Ex) (a : Addr) (oe : Obj) (pn : List (Addr × Obj)), Zc (.ref (G.xc x)) none oe → (∃ vs, oe.data = .fields vs) → LSs Phi (X.suite a ((a, oe) :: pn)) (G.with a x) b WF suite (s0 :: ss2)) :
    LS0 Phi X G b W (.tryE body i suite) (.Try ss [.ExceptHandler (some (.Name nc p1)) (some n) (s0 :: ss2) p2] [] [] pos) := by
  refine PS.imp (ps_try_as (ts := fun a cls d D σ H => ∃ x, cls = .ref (G.xc x) ∧ d = none ∧ tS (G.with a x) b WF (les Phi suite) D σ H) hs hf hN hsl.hi hln hc tk hb fun a oe cls d pn hz hfs => ⟨fun pins s σ H D I h => ?_⟩) fun D σ H h => ?_
  · obtain ⟨x, rfl, rfl, h⟩ := h
    exact (hsu x a oe pn hz hfs).run pins s σ H D I h
  · obtain ⟨g, env, w, K, S, q, ok⟩ := h
    simp only [les] at q
    refine ⟨g, [], env, w, _, S, (fun _ z => nomatch z), q, ⟨ok.nx, ok.rt, fun {x g' env' w' σ' H'} q S' => ?_⟩⟩
    refine ⟨true, hexm x, fun _ a ha => ⟨x, rfl, rfl, ?_⟩, fun z => by cases z⟩
    have S1 : Sim (G.with a x) b g' [] env' w' σ' H' := S'.conv (G := G) (G' := G.with a x) rfl rfl rfl fun y p e => (S'.rep y p e).nox hxa
    obtain ⟨g2, k2, S2⟩ := S1.setSc i (v := .ref a) (d := .exc x) (y := true) (.exc rfl)
    refine ⟨g2, [], _, w', _, S2, (fun _ z => nomatch z), q, ⟨fun {g3 env3 w3 σ3 H3} q3 S3 k3 => ?_, fun q3 _ => q3.elim, fun q3 _ => q3.elim⟩⟩
    obtain ⟨rfl, hnx, q3⟩ := q3
    have S4 : Sim G b g3 [] (env3.set i none) w3 (σ3.set i none) H3 := (S3.unset i).conv (G := G.with a x) (G' := G) rfl rfl rfl fun y p e => by
      cases y with
      | sl j =>
        obtain ⟨pc, rfl, he⟩ := plc_sl_some e
        exact Env.nox_get hnx he
      | tm k => exact (S'.rep (.tm k) p e).nox hxa
      | fd q f => exact (S'.rep (.fd q f) p e).nox hxa
    exact ok.nx q3 S4 fun j hj => absurd hj (Nat.not_lt_zero j)
theorem isi_exc {H : Hp} {v : V} {d : D} {F : List Addr} {a : Addr} {x y : Ex} {c : Bool} (hc : isiD d (.ex y) = some c) (h : FRep (G.with a x) H v d F) : d = .exc x ∧ v = .ref a ∧ some (decide (x = y)) = some c := by
  cases h with
  | exc h1 =>
    obtain ⟨h2, h3⟩ := Prod.mk.inj (Option.some.inj h1)
    subst h2; subst h3
    exact ⟨rfl, rfl, hc⟩
  | _ => cases hc
theorem isi_val {H : Hp} {v : V} {d : D} {F : List Addr} {a : Addr} {x : Ex} {c : Bool} (hc : isiD d .valueError = some c) (h : FRep (G.with a x) H v d F) : v = .ref a ∧ c = true := by
  cases h with
  | exc h1 =>
    obtain ⟨h2, h3⟩ := Prod.mk.inj (Option.some.inj h1)
    subst h2
    exact ⟨rfl, (Option.some.inj hc).symm⟩
  | _ => cases hc
/-- isinstance of the exception in hand -/
theorem le_isiE {y : Ex} {i : Nat} {a : Addr} {x : Ex} {oe : Obj} {pn : List (Addr × Obj)} {nm : Str} (C : ExcC X.K (G.xc x)) (hz : Zc (.ref (G.xc x)) none oe) (hf : ∃ vs, oe.data = .fields vs) (T : CTx G X) (hg : Gl X "isinstance") (hgn : Gl X nm) (hdb : (nm == ("__debug__" : Str)) = false)
    (hm : X.mg nm = some (.ref (G.xc y))) (hk : PySem.W.kitOne X.K (.ref (G.xc x)) (.ref (G.xc y)) = some (decide (x = y))) (hs1 : simple e1 = true) (h1 : PE (X.suite a ((a, oe) :: pn)) e1 (tVar i)) :
    LE Phi (X.suite a ((a, oe) :: pn)) (G.with a x) b W (.isi (.var i) (.ex y)) (.Call (.Name "isinstance" p1) [e1, .Name nm p2] [] pos) := by
  refine PE.imp (pe_callB (X := X.suite a ((a, oe) :: pn)) (call_isE C hz hf) hg (T.mgN _ (by decide +kernel)) (by decide +kernel) (pa_cons h1 (pa_cons (pe_glob (X := X.suite a ((a, oe) :: pn)) (v := .ref (G.xc y)) hgn hm rfl hdb) pa_nil) (simple_star hs1 _ _)) (by decide +kernel) (by decide +kernel) (simple_star hs1 _ _) (simples_any rfl _ _)) fun σ H Q h => ?_
  obtain ⟨g, ts, env, w, Q0, E0, S, q, fin, hx⟩ := h
  simp only [lev] at q
  obtain ⟨pc, he, q⟩ := onSlot_some q
  obtain ⟨c, hc, q⟩ := onSome_some q
  have hr : FRep (G.with a x) H _ pc.toR.d _ := CRep.toR (S.rep _ _ (plc_sl he))
  obtain ⟨h1, h2, h3⟩ := isi_exc hc hr
  refine ⟨_, S.sig _ _ he, ?_⟩
  rw [h2]
  refine ⟨.ref (G.xc y), .ref (G.xc y), c, rfl, (fun u h => h), by rw [hk]; exact h3, ?_⟩
  have hh : Hand (G.with a x) b g ts [] env w σ H Q0 Q := ⟨by rw [List.append_nil]; exact S, fin⟩
  exact hh.scal q (.bl c)
theorem le_isiV {i : Nat} {a : Addr} {x : Ex} {oe : Obj} {pn : List (Addr × Obj)} (C : ExcC X.K (G.xc x)) (hz : Zc (.ref (G.xc x)) none oe) (hf : ∃ vs, oe.data = .fields vs) (T : CTx G X) (hg : Gl X "isinstance") (hgn : Gl X "ValueError")
    (hk : PySem.W.kitOne X.K (.ref (G.xc x)) (.type "ValueError") = some true) (hs1 : simple e1 = true) (h1 : PE (X.suite a ((a, oe) :: pn)) e1 (tVar i)) :
    LE Phi (X.suite a ((a, oe) :: pn)) (G.with a x) b W (.isi (.var i) .valueError) (.Call (.Name "isinstance" p1) [e1, .Name "ValueError" p2] [] pos) := by
  refine PE.imp (pe_callB (X := X.suite a ((a, oe) :: pn)) (call_isE C hz hf) hg (T.mgN _ (by decide +kernel)) (by decide +kernel) (pa_cons h1 (pa_cons (pe_bltn (X := X.suite a ((a, oe) :: pn)) (v := .ty "ValueError") (u := .type "ValueError") hgn (T.mgN _ (by decide +kernel)) (by decide +kernel) rfl (by decide +kernel) (by decide +kernel)) pa_nil) (simple_star hs1 _ _)) (by decide +kernel) (by decide +kernel) (simple_star hs1 _ _) (simples_any rfl _ _)) fun σ H Q h => ?_
  obtain ⟨g, ts, env, w, Q0, E0, S, q, fin, hx⟩ := h
  simp only [lev] at q
  obtain ⟨pc, he, q⟩ := onSlot_some q
  obtain ⟨c, hc, q⟩ := onSome_some q
  have hr : FRep (G.with a x) H _ pc.toR.d _ := CRep.toR (S.rep _ _ (plc_sl he))
  have hh : Hand (G.with a x) b g ts [] env w σ H Q0 Q := ⟨by rw [List.append_nil]; exact S, fin⟩
  obtain ⟨h2, h3⟩ := isi_val hc hr
  subst h3
  refine ⟨_, S.sig _ _ he, ?_⟩
  rw [h2]
  exact ⟨.ty "ValueError", .type "ValueError", true, rfl, (fun u h => h), hk, hh.scal q (.bl true)⟩
end
end LL
end
section
set_option Elab.async false
set_option linter.all false
set_option maxRecDepth 100000
/-! LTest: tests. -/
namespace LL
open PySem L2
section
variable {Fn : Type} {Phi : Fn → LSp} {X : Cx} {G : SG} {b : Bs} {W : WX}
variable {e e1 e2 e3 : Expr} {m m1 m2 m3 : ME Fn} {pos p1 p2 p3 p4 apos cpos : Pos}
/-- an expression whose test is its value's truth -/
def plainT : Expr → Bool
  | .Name _ _ => true
  | .Call _ _ _ _ => true
  | .Attribute _ _ _ => true
  | .Subscript _ _ _ => true
  | _ => false
theorem lt_plain (T : CTx G X) (hp : plainT e = true) (h : LE Phi X G b W m e) : LT Phi X G b W m e := by
  refine PT.imp (pt_truth h (by cases e <;> first | exact fun _ => rfl | cases hp)) fun σ H Q h => ?_
  unfold tQ at h
  rw [← T.kk]
  exact h
theorem lt_bool {τ : Env → Wd → VK → XKd → Prop} {σ : St} {H : Hp} {Q : Bool → Hp → Prop} {t : TE} (h : tE G b W τ σ H fun x H' => ∃ k, TruV G.K x H' k ∧ Q k H') (i : ∀ Q' : L2.VK, tE G b W τ σ H Q' → t σ H Q') : t σ H fun x H' => ∃ k, TruV G.K x H' k ∧ Q k H' := i _ h
theorem lt_cmp {o : Cop} (T : CTx G X) (hm : behindInMarks (copOf o) e2 = false) (h1 : LE Phi X G b W m1 e1) (h2 : LE Phi X G b W m2 e2) : LT Phi X G b W (.cmp o m1 m2) (.Compare e1 [copOf o] [e2] pos) := by
  refine PT.imp (pt_cmpR (op_cop T.un o) h1 h2 hm) fun σ H Q h => ?_
  unfold tTest tOp
  have h' := tE_two (P := fun _ x y w2 Q _ => cmpop o x.d y.d fun r => Q (sc (.bl r)) w2) (tE_imp h fun env w Q E q => by simp only [lev] at q; exact q)
  refine tE_mono h' fun x H1 q => tE_mono q fun y H2 q => ?_
  obtain ⟨g, ts, env, r, r2, w2, Q0, E0, hh, rfl, rfl, q, hx⟩ := q
  rw [← T.kk]
  refine cop_ok hh.rep0 hh.rep1 q fun k q => ⟨k, rfl, ?_⟩
  obtain ⟨k', hk, q9⟩ := hh.scal q (.bl k)
  have e9 : k' = k := hk
  rw [← e9]
  exact q9
theorem lt_chain {o p : Cop} (T : CTx G X) (hm : lastMarks [copOf o, copOf p] [e2, e3] = false) (h1 : LE Phi X G b W m1 e1) (h2 : LE Phi X G b W m2 e2) (h3 : LE Phi X G b W m3 e3) :
    LT Phi X G b W (.chain o p m1 m2 m3) (.Compare e1 [copOf o, copOf p] [e2, e3] pos) := by
  refine PT.imp (pt_chain (op_cop T.un o) (op_cop T.un p) h1 h2 h3 hm) fun σ H Q h => ?_
  unfold tTest tChain
  have h' := tE_two (P := fun env x y w2 Q E => cmpop o x.d y.d fun r => (r = true → lev Phi m3 env w2 (fun z w3 => cmpop p y.d z.d fun r2 => Q (sc (.bl r2)) w3) E) ∧ (r = false → Q (sc (.bl false)) w2)) (tE_imp h fun env w Q E q => by simp only [lev] at q; exact q)
  refine tE_mono h' fun x H1 q => tE_mono q fun y H2 q => ?_
  obtain ⟨g, ts, env, r, r2, w2, Q0, E0, hh, rfl, rfl, q, hx⟩ := q
  rw [← T.kk]
  have bool : ∀ {k : Bool} {H : Hp}, (∃ k', TruV G.K (.bl k) H k' ∧ Q k' H) → ∃ k', V.bl k = .bl k' ∧ Q k' H := fun {k H} ⟨k', hk, q⟩ => ⟨k, rfl, by have : k' = k := hk; rw [← this]; exact q⟩
  refine cop_ok hh.rep0 hh.rep1 q fun k q => ⟨k, rfl, ?_⟩
  cases k with
  | false => exact iteF (bool (hh.scal (q.2 rfl) (.bl false)))
  | true =>
    refine iteT ?_
    refine ⟨g, ts ++ [r, r2], env, w2, _, E0, hh.sim, q.1 rfl, fun r3 w3 g3 H3 q3 S3 k3 => ?_, hx.app⟩
    rw [List.append_assoc] at S3
    have hh3 : Hand G b g3 ts ([r, r2] ++ [r3]) env w3 σ H3 Q0 (fun x H' => ∃ k, TruV G.K x H' k ∧ Q k H') := ⟨S3, fun r4 w4 g4 H4 q4 S4 k4 => hh.fin r4 w4 g4 H4 q4 S4 fun j hj => (k4 j hj).trans (k3 j (by simp; omega))⟩
    have e1 := hh3.rep (k := 1) (r := r2) rfl
    have e2 := hh3.rep (k := 2) (r := r3) rfl
    rw [k3 (ts.length + 1) (by simp)] at e1
    have hl : (ts ++ [r, r2]).length = ts.length + 2 := by simp
    rw [hl]
    exact cop_ok e1 e2 q3 fun k q => bool (hh3.scal q (.bl k))
theorem lt_isN {j : Nat} {pos' : Pos} (h1 : LE Phi X G b W m1 e1) : LT Phi X G b W (.isN m1) (.Compare e1 [.Is] [.Constant .none j pos'] pos) := by
  refine PT.imp (pt_cmp (pc_isN h1)) fun σ H Q h => ?_
  unfold tB tIsN
  refine tE_mono (tE_one (P := fun _ x w1 Q _ => Q (sc (.bl x.d.isNon)) w1) (tE_imp h fun env w Q E q => by simp only [lev] at q; exact q)) fun x H1 q => ?_
  obtain ⟨g, ts, env, r, w2, Q0, E0, hh, rfl, q, hx⟩ := q
  obtain ⟨k', hk, q⟩ := hh.scal q (.bl _)
  have : k' = r.d.isNon := hk
  subst this
  refine ⟨_, rfl, ?_⟩
  rw [non_iff hh.rep0]
  exact q
theorem lt_notN {j : Nat} {pos' : Pos} (h1 : LE Phi X G b W m1 e1) : LT Phi X G b W (.notN m1) (.Compare e1 [.IsNot] [.Constant .none j pos'] pos) := by
  refine PT.imp (pt_cmp (pc_notN h1)) fun σ H Q h => ?_
  unfold tB tNotN
  refine tE_mono (tE_one (P := fun _ x w1 Q _ => Q (sc (.bl (!x.d.isNon))) w1) (tE_imp h fun env w Q E q => by simp only [lev] at q; exact q)) fun x H1 q => ?_
  obtain ⟨g, ts, env, r, w2, Q0, E0, hh, rfl, q, hx⟩ := q
  obtain ⟨k', hk, q⟩ := hh.scal q (.bl _)
  have : k' = !r.d.isNon := hk
  subst this
  refine ⟨_, rfl, ?_⟩
  rw [non_iff hh.rep0]
  exact q
theorem lt_not (T : CTx G X) (h1 : LT Phi X G b W m1 e1) : LT Phi X G b W (.not m1) (.UnaryOp .Not e1 pos) := by
  refine PT.imp (pt_not h1) fun σ H Q h => ?_
  unfold tNot tQ
  refine tE_mono (tE_one (P := fun env x w1 Q E => onSome (truth x.d) fun c => Q (sc (.bl (!c))) w1) (tE_imp h fun env w Q E q => by simp only [lev] at q; exact q)) fun x H1 q => ?_
  obtain ⟨g, ts, env, r, w2, Q0, E0, hh, rfl, q, hx⟩ := q
  obtain ⟨c, hd, q⟩ := onSome_some q
  obtain ⟨k', hk, q⟩ := hh.scal q (.bl _)
  have : k' = !c := hk
  subst this
  exact ⟨c, by rw [T.kk]; exact tru_of hh.rep0 hd, q⟩
theorem lt_and {rest : List Expr} (h1 : LT Phi X G b W m1 e1) (h2 : PW X (.BoolOp .And (e2 :: rest) pos) (tQ G b W (lev Phi m2))) : PW X (.BoolOp .And (e1 :: e2 :: rest) pos) (tQ G b W (lev Phi (.and m1 m2))) := by
  have := pw_and h1 h2
  refine ⟨fun wh pins s σ H Q I h => this.run wh pins s σ H Q I ?_⟩
  unfold tAnd tQ
  refine tE_mono (tE_one (P := fun env x w1 Q E => x.d.onBl fun c => (c = true → lev Phi m2 env w1 Q E) ∧ (c = false → Q (sc (.bl false)) w1)) (tE_imp h fun env w Q E q => by simp only [lev] at q; exact q)) fun x H1 q => ?_
  obtain ⟨g, ts, env, r, w2, Q0, E0, hh, rfl, q, hx⟩ := q
  obtain ⟨c, hd, q⟩ := onBl_some q
  have e0 := hh.rep0
  rw [hd] at e0
  refine ⟨c, by rw [e0.bl_of]; rfl, ?_⟩
  cases c with
  | true => exact iteT (hh.go hx (q.1 rfl))
  | false =>
    obtain ⟨k', hk, q⟩ := hh.scal (q.2 rfl) (.bl false)
    have : k' = false := hk
    subst this
    exact iteF q
theorem lt_or {rest : List Expr} (h1 : LT Phi X G b W m1 e1) (h2 : PW X (.BoolOp .Or (e2 :: rest) pos) (tQ G b W (lev Phi m2))) : PW X (.BoolOp .Or (e1 :: e2 :: rest) pos) (tQ G b W (lev Phi (.or m1 m2))) := by
  have := pw_or h1 h2
  refine ⟨fun wh pins s σ H Q I h => this.run wh pins s σ H Q I ?_⟩
  unfold tOr tQ
  refine tE_mono (tE_one (P := fun env x w1 Q E => x.d.onBl fun c => (c = true → Q (sc (.bl true)) w1) ∧ (c = false → lev Phi m2 env w1 Q E)) (tE_imp h fun env w Q E q => by simp only [lev] at q; exact q)) fun x H1 q => ?_
  obtain ⟨g, ts, env, r, w2, Q0, E0, hh, rfl, q, hx⟩ := q
  obtain ⟨c, hd, q⟩ := onBl_some q
  have e0 := hh.rep0
  rw [hd] at e0
  refine ⟨c, by rw [e0.bl_of]; rfl, ?_⟩
  cases c with
  | false => exact iteF (hh.go hx (q.2 rfl))
  | true =>
    obtain ⟨k', hk, q⟩ := hh.scal (q.1 rfl) (.bl true)
    have : k' = true := hk
    subst this
    exact iteT q
theorem lt_and1 (h1 : LT Phi X G b W m1 e1) : PW X (.BoolOp .And [e1] pos) (tQ G b W (lev Phi m1)) := pw_and1 h1
theorem lt_or1 (h1 : LT Phi X G b W m1 e1) : PW X (.BoolOp .Or [e1] pos) (tQ G b W (lev Phi m1)) := pw_or1 h1
theorem le_and1 (h1 : LE Phi X G b W m1 e1) : LE Phi X G b W m1 (.BoolOp .And [e1] pos) := pe_one h1
theorem le_or1 (h1 : LE Phi X G b W m1 e1) : LE Phi X G b W m1 (.BoolOp .Or [e1] pos) := pe_one h1
end
end LL
end
section
set_option Elab.async false
set_option linter.all false
set_option maxRecDepth 100000
/-! LChk: does this syntax say that mini expression? -/
namespace LL
open PySem L2
structure Cc (Fn : Type) where
  N : List Str
  sc : Scope
  nm : Fn → Str
  cn : Cl → Str
  xn : Ex → Str
  fD : Fn → Bool
  fM : Cl → Fn → Bool
  fN : Cl → Fn → Bool
  fX : Ex → Bool
  nofd : Str → Bool
variable {Fn : Type}
def dbg (x : Str) : Bool := !(x == ("__debug__" : Str))
def Cc.glob (c : Cc Fn) (x : Str) : Bool := decide (c.sc.names.lookup x = some .globalImplicit) && dbg x
def visK : Option NameKind → Bool
  | some .local => true
  | some .cell => true
  | some .free => true
  | _ => false
def Cc.v (c : Cc Fn) (i : Nat) (x : Str) : Bool := decide (c.N[i]? = some x) && visK (c.sc.names.lookup x) && dbg x && !(x == ("__classdict__" : Str))
/-- the name that a comprehension stores -/
def Cc.loc (c : Cc Fn) (scope : Scope) (i : Nat) (x : Str) : Bool := decide (c.N[i]? = some x) && (decide ((relS scope c.sc).names.lookup x = some .local) || (decide (scope.names.lookup x = some .cell) && decide ((relS scope c.sc).names.lookup x = some .cell)))
def Cc.ve (c : Cc Fn) (i : Nat) : Expr → Bool
  | .Name x _ => c.v i x
  | _ => false
abbrev Cc.blk (c : Cc Fn) (scope : Scope) : Cc Fn := { c with sc := relS scope c.sc }
def cstOk : D → Expr → Bool
  | .int i, .Constant (.int j) _ _ => decide (i = j)
  | .int i, .UnaryOp .USub (.Constant (.int j) _ _) _ => decide (i = -j)
  | .bl a, .Constant (.bool b) _ _ => a == b
  | .non, .Constant .none _ _ => true
  | .tg t, .Constant (.str s) _ _ => decide (s = tgS t)
  | _, _ => false
def sameLine (a b : Pos) : Bool := a.endLine == b.line
def isTrueC : ME Fn → Bool
  | .cst (.bl true) => true
  | _ => false
def copIs (o : Cop) (p : CmpOp) : Bool := decide (p = copOf o)
def tgIs (t : Tg) : Expr → Bool
  | .Constant (.str s) _ _ => decide (s = tgS t)
  | _ => false
mutual
/-- t: as a test -/
def chk : ME Fn → Bool → Cc Fn → Expr → Bool
  | .var i, t, c, e => match e with
    | .Name x _ => c.v i x
    | _ => false
  | .cst d, t, c, e => !t && cstOk d e
  | .bin o a b, t, c, e => match e with
    | .BinOp e1 op e2 _ => !t && decide (op = opOf o) && chk a false c e1 && chk b false c e2
    | _ => false
  | .cmp o a b, t, c, e => match e with
    | .Compare e1 [op] [e2] _ => copIs o op && simple e2 && chk a false c e1 && chk b false c e2
    | _ => false
  | .chain o p a b d, t, c, e => match e with
    | .Compare e1 [op, op2] [e2, e3] _ => copIs o op && copIs p op2 && !(lastMarks [copOf o, copOf p] [e2, e3]) && chk a false c e1 && chk b false c e2 && chk d false c e3
    | _ => false
  | .isN a, t, c, e => match e with
    | .Compare e1 [.Is] [.Constant .none _ _] _ => chk a false c e1
    | _ => false
  | .notN a, t, c, e => match e with
    | .Compare e1 [.IsNot] [.Constant .none _ _] _ => chk a false c e1
    | _ => false
  | .and a b, t, c, e => match e with
    | .BoolOp .And (e1 :: e2 :: rest) pos => chk a t c e1 && (match rest with
      | [] => chk b t c e2
      | e3 :: r => chk b t c (.BoolOp .And (e2 :: e3 :: r) pos))
    | _ => false
  | .or a b, t, c, e => match e with
    | .BoolOp .Or (e1 :: e2 :: rest) pos => chk a t c e1 && (match rest with
      | [] => chk b t c e2
      | e3 :: r => chk b t c (.BoolOp .Or (e2 :: e3 :: r) pos))
    | _ => false
  | .not a, t, c, e => match e with
    | .UnaryOp .Not e1 _ => chk a t c e1
    | _ => false
  | .idx a i, t, c, e => match e with
    | .Subscript e1 e2 _ => simple e2 && chk a false c e1 && chk i false c e2
    | _ => false
  | .upTo a n, t, c, e => match e with
    | .Subscript e1 (.Slice none (some (.Constant (.int k) _ _)) none _) _ => !t && decide (k = (n : Int)) && chk a false c e1
    | _ => false
  | .from1 a, t, c, e => match e with
    | .Subscript e1 (.Slice (some (.Constant (.int k) _ _)) none none _) _ => !t && decide (k = 1) && chk a false c e1
    | _ => false
  | .attr a f, t, c, e => match e with
    | .Attribute e1 x _ => decide (x = fdS f) && simple e1 && chk a false c e1
    | _ => false
  | .attrIx a f i, t, c, e => match e with
    | .Subscript (.Attribute e1 x _) e2 _ => decide (x = fdS f) && simple e1 && chk a false c e1 && c.ve i e2
    | _ => false
  | .attrIx2 a f i j, t, c, e => match e with
    | .Subscript (.Subscript (.Attribute e1 x _) e2 _) e3 _ => decide (x = fdS f) && simple e1 && chk a false c e1 && c.ve i e2 && c.ve j e3
    | _ => false
  | .attrGet a f k u, t, c, e => match e with
    | .Call (.Attribute (.Attribute e1 x _) y apos) [e2, .Tuple [e3] _ _] [] cpos => !t && decide (x = fdS f) && decide (y = "get") && simple e1 && sameLine apos cpos && chk a false c e1 && c.ve k e2 && tgIs u e3
    | _ => false
  | .tup es, t, c, e => match e with
    | .Tuple xs _ _ => !t && chkA es c xs
    | _ => false
  | .lst es, t, c, e => match e with
    | .List xs _ => !t && chkA es c xs
    | _ => false
  | .comp elt i it cnd, t, c, e => match e with
    | .ListComp e1 [⟨.Name x _, e2, ifs, 0⟩] scope _ => !t && simple e2 && chk it false c e2 && blkC c.N c.sc scope [(x, i)] && c.loc scope i x && (match ifs with
      | [] => isTrueC cnd
      | [e3] => chk cnd true (c.blk scope) e3
      | _ => false) && chk elt false (c.blk scope) e1
    | _ => false
  | .compR elt i n cnd, t, c, e => match e with
    | .ListComp e1 [⟨.Name x _, .Call (.Name y _) [e2] [] _, ifs, 0⟩] scope _ => !t && decide (y = "range") && c.glob "range" && simple e2 && chk n false c e2 && blkC c.N c.sc scope [(x, i)] && c.loc scope i x && (match ifs with
      | [] => isTrueC cnd
      | [e3] => chk cnd true (c.blk scope) e3
      | _ => false) && chk elt false (c.blk scope) e1
    | _ => false
  | .call f es, t, c, e => match e with
    | .Call (.Name y _) (x :: xs) [] _ => c.fD f && decide (y = c.nm f) && c.glob (c.nm f) && chkA es c (x :: xs)
    | _ => false
  | .new cl f es, t, c, e => match e with
    | .Call (.Name y _) (x :: xs) [] _ => c.fN cl f && decide (y = c.cn cl) && c.glob (c.cn cl) && chkA es c (x :: xs)
    | _ => false
  | .meth cl f o es, t, c, e => match e with
    | .Call (.Attribute e1 y apos) xs [] cpos => c.fM cl f && decide (y = c.nm f) && simple e1 && sameLine apos cpos && chk o false c e1 && decide (xs.length < 20) && chkA es c xs
    | _ => false
  | .blt f es, t, c, e => match e with
    | .Call (.Name y _) (x :: xs) [] _ => decide (y = bfName f) && c.glob (bfName f) && chkA es c (x :: xs)
    | _ => false
  | .isi a u, t, c, e => match e with
    | .Call (.Name y _) [e1, .Name z _] [] _ => u.plain && decide (y = "isinstance") && c.glob "isinstance" && decide (z = tyName u) && c.glob (tyName u) && simple e1 && chk a false c e1
    | _ => false
  | .count a b, t, c, e => match e with
    | .Call (.Attribute e1 y apos) [e2] [] cpos => decide (y = "count") && simple e1 && simple e2 && sameLine apos cpos && chk a false c e1 && chk b false c e2
    | _ => false
  | .dgetD a k d, t, c, e => match e with
    | .Call (.Attribute e1 y apos) [e2, e3] [] cpos => decide (y = "get") && simple e1 && simple e2 && simple e3 && sameLine apos cpos && chk a false c e1 && chk k false c e2 && chk d false c e3
    | _ => false
def chkA : MEs Fn → Cc Fn → List Expr → Bool
  | .nil, c, es => es.isEmpty
  | .cons m ms, c, es => match es with
    | e :: r => simple e && chk m false c e && chkA ms c r
    | [] => false
end
/-- what is known where the syntax stands -/
structure FX (Phi : Fn → LSp) (G : SG) (k : Nat) (c : Cc Fn) (X : Cx) : Prop where
  T : CTx G X
  calm : X.calm = true
  sc : X.env.scope = c.sc
  N : X.N = c.N
  nd : X.N.Nodup
  room : Room k X.A
  dm : ∀ f, c.fD f = true → ∃ n, n ≤ k ∧ DefAt Phi X G n f (c.nm f)
  mm : ∀ cl f, c.fM cl f = true → ∃ n, n ≤ k ∧ MethAt Phi X G n cl f (c.nm f)
  nw : ∀ cl f, c.fN cl f = true → ∃ n, n + 1 ≤ k ∧ NewAt Phi X G n cl f (c.cn cl)
  xx : ∀ x, c.fX x = true → ExAt X G x (c.xn x)
end LL
end
section
set_option Elab.async false
set_option linter.all false
set_option maxRecDepth 100000
set_option maxHeartbeats 4000000
/-! LChk2: what the check says is so: expressions. -/
namespace LL
open PySem L2
section
variable {Fn : Type} {Phi : Fn → LSp} {X : Cx} {G : SG} {b : Bs} {W : WX} {k : Nat} {c : Cc Fn}
variable {e e1 e2 e3 : Expr} {m m1 m2 m3 : ME Fn} {pos p1 p2 p3 p4 apos cpos : Pos}
abbrev LTP (Phi : Fn → LSp) (X : Cx) (G : SG) (b : Bs) (W : WX) (m : ME Fn) (e : Expr) : Prop := LT Phi X G b W m e ∧ ∀ op es pos, e = .BoolOp op es pos → PW X e (tQ G b W (lev Phi m))
abbrev Says (Phi : Fn → LSp) (X : Cx) (G : SG) (m : ME Fn) (t : Bool) (e : Expr) : Prop := ∀ b W, Takes X W → (t = false → LE Phi X G b W m e) ∧ (t = true → LTP Phi X G b W m e)
theorem says (T : CTx G X) {t : Bool} (h : ∀ b W, Takes X W → LE Phi X G b W m e) (hp : t = true → plainT e = true) : Says Phi X G m t e := fun b W tk => ⟨fun _ => h b W tk, fun ht => ⟨lt_plain T (hp ht) (h b W tk), fun op es pos z => by
  have := hp ht
  rw [z] at this
  cases this⟩⟩
theorem says2 {t : Bool} (h : ∀ b W, Takes X W → LE Phi X G b W m e) (h2 : ∀ b W, Takes X W → LT Phi X G b W m e) (hn : ∀ op es pos, e ≠ .BoolOp op es pos) : Says Phi X G m t e := fun b W tk => ⟨fun _ => h b W tk, fun ht => ⟨h2 b W tk, fun op es pos z => absurd z (hn op es pos)⟩⟩
theorem FX.gl (F : FX Phi G k c X) {x : Str} (h : c.glob x = true) : Gl X x ∧ (x == ("__debug__" : Str)) = false := by
  simp only [Cc.glob, dbg, Bool.and_eq_true, decide_eq_true_eq, Bool.not_eq_true'] at h
  refine ⟨?_, h.2⟩
  show X.env.scope.names.lookup x = _
  rw [F.sc]; exact h.1
theorem FX.vis (F : FX Phi G k c X) {i : Nat} {x : Str} (h : c.v i x = true) : X.N[i]? = some x ∧ Vis X.env.scope x ∧ (x == ("__debug__" : Str)) = false ∧ (x == ("__classdict__" : Str)) = false := by
  simp only [Cc.v, dbg, Bool.and_eq_true, decide_eq_true_eq, Bool.not_eq_true'] at h
  obtain ⟨⟨⟨h1, h2⟩, h3⟩, h4⟩ := h
  refine ⟨by rw [F.N]; exact h1, ?_, h3, h4⟩
  unfold Vis
  rw [F.sc]
  cases hq : c.sc.names.lookup x with
  | none => rw [hq] at h2; cases h2
  | some z =>
    rw [hq] at h2
    cases z <;> first | exact .inl rfl | exact .inr (.inl rfl) | exact .inr (.inr rfl) | cases h2
theorem FX.var (F : FX Phi G k c X) {i : Nat} (h : c.ve i e = true) : PE X e (tVar i) ∧ simple e = true := by
  cases e with
  | Name x p =>
    obtain ⟨h1, h2, h3, h4⟩ := F.vis (x := x) (i := i) h
    exact ⟨pe_var h1 h2 h3 h4, rfl⟩
  | _ => cases h
theorem cst_le {d : D} (h : cstOk d e = true) : LE Phi X G b W (.cst d) e := by
  cases d with
  | int i =>
    cases e with
    | Constant v j p =>
      cases v <;> simp only [cstOk, Bool.false_eq_true, decide_eq_true_eq] at h
      subst h
      exact le_cst_int
    | UnaryOp op x p =>
      cases op <;> try (simp [cstOk] at h)
      cases x <;> try (simp [cstOk] at h)
      rename_i v j q
      cases v <;> simp only [cstOk, Bool.false_eq_true, decide_eq_true_eq] at h
      subst h
      exact le_neg
    | _ => simp [cstOk] at h
  | bl a =>
    cases e with
    | Constant v j p =>
      cases v <;> simp only [cstOk, Bool.false_eq_true, beq_iff_eq] at h
      subst h
      exact le_cst_bl
    | _ => simp [cstOk] at h
  | non =>
    cases e with
    | Constant v j p =>
      cases v <;> simp only [cstOk, Bool.false_eq_true] at h
      exact le_cst_non
    | _ => simp [cstOk] at h
  | tg t =>
    cases e with
    | Constant v j p =>
      cases v <;> simp only [cstOk, Bool.false_eq_true, decide_eq_true_eq] at h
      subst h
      exact le_cst_tg
    | _ => simp [cstOk] at h
  | _ => simp [cstOk] at h
theorem FX.blk (F : FX Phi G k c X) {scope : Scope} {s : Shared} {H : Hp} {C : Addr} {cl : List (Str × Addr)} {fp : List Addr} : FX Phi G k (c.blk scope) (X.blk s H scope (compEnvC scope cl C X.env) fp) where
  T := ⟨F.T.kk, F.T.cls, F.T.noa, F.T.un, F.T.mgN⟩
  calm := F.calm
  sc := by
    show relabel scope X.env = relS scope c.sc
    rw [← F.sc]; rfl
  N := F.N
  nd := F.nd
  room := F.room
  dm := fun f h => let ⟨n, h1, h2⟩ := F.dm f h; ⟨n, h1, ⟨h2.ex⟩⟩
  mm := fun cl f h => let ⟨n, h1, h2⟩ := F.mm cl f h; ⟨n, h1, ⟨h2.ex, h2.has, h2.nofd⟩⟩
  nw := fun cl f h => let ⟨n, h1, h2⟩ := F.nw cl f h; ⟨n, h1, ⟨h2.ex, h2.has⟩⟩
  xx := fun x h => let h2 := F.xx x h; ⟨h2.ex, h2.mg, h2.kp, h2.r⟩
/-- the parts of a list comprehension -/
structure CompP (X : Cx) (elt tg iter : Expr) (ifs : List Expr) (scope : Scope) (own : List (Str × Nat)) (wi : TI) (g : TG) (tt : TT) (te : TE) : Prop where
  hi : PI X tg iter wi
  ok : BlkOk X.N X.env.scope scope own
  hg : ∀ (s : Shared) (H : Hp) (C : Addr) (cl : List (Str × Addr)) (fp : List Addr), PG (X.blk s H scope (compEnvC scope cl C X.env) fp) tg g
  ht : ∀ (s : Shared) (H : Hp) (C : Addr) (cl : List (Str × Addr)) (fp : List Addr), PTs (X.blk s H scope (compEnvC scope cl C X.env) fp) ifs tt
  he : ∀ (s : Shared) (H : Hp) (C : Addr) (cl : List (Str × Addr)) (fp : List Addr), PE (X.blk s H scope (compEnvC scope cl C X.env) fp) elt te
  hs : ∀ x, foldedSetIterable iter X.env x = pure x
def SaysX (Phi : Fn → LSp) (G : SG) (m : ME Fn) (t : Bool) (c : Cc Fn) (e : Expr) : Prop := ∀ X k, FX Phi G k c X → Says Phi X G m t e
theorem comp_parts {elt cnd : ME Fn} {i : Nat} {x : Str} {p : Pos} {scope : Scope} {ifs : List Expr} {wi : TI} (F : FX Phi G k c X) (hi : PI X (.Name x p) e2 wi) (hs : ∀ x, foldedSetIterable e2 X.env x = pure x) (hb : blkC c.N c.sc scope [(x, i)] = true) (hl : c.loc scope i x = true)
    (hc : (match ifs with
      | [] => isTrueC cnd
      | [e3] => chk cnd true (c.blk scope) e3
      | _ => false) = true) (ihc : ∀ e3, chk cnd true (c.blk scope) e3 = true → SaysX Phi G cnd true (c.blk scope) e3) (ihe : SaysX Phi G elt false (c.blk scope) e1) :
    ∃ tt, CompP X e1 (.Name x p) e2 ifs scope [(x, i)] wi (gName i) tt (teOf Phi G elt) ∧ ∀ b' σ H Q, tQ G b' WF (lev Phi cnd) σ H Q → tt σ H Q := by
  have ok : BlkOk X.N X.env.scope scope [(x, i)] := by rw [F.N, F.sc]; exact blkOk_by hb
  have hg : ∀ (s : Shared) (H : Hp) (C : Addr) (cl : List (Str × Addr)) (fp : List Addr), PG (X.blk s H scope (compEnvC scope cl C X.env) fp) (.Name x p) (gName i) := fun s H C cl fp => by
    have F' := F.blk (scope := scope) (s := s) (H := H) (C := C) (cl := cl) (fp := fp)
    simp only [Cc.loc, Bool.and_eq_true, Bool.or_eq_true, decide_eq_true_eq] at hl
    obtain ⟨hl1, hl | ⟨hl3, hl⟩⟩ := hl
    · have hl2 : (X.blk s H scope (compEnvC scope cl C X.env) fp).env.scope.names.lookup x = some .local := by rw [F'.sc]; exact hl
      exact pg_name F'.nd (by rw [F'.N]; exact hl1) (.inl hl2) (.inr hl2)
    · have hl2 : (X.blk s H scope (compEnvC scope cl C X.env) fp).env.scope.names.lookup x = some .cell := by rw [F'.sc]; exact hl
      exact pg_name F'.nd (by rw [F'.N]; exact hl1) (.inr hl2) (.inl (by show (scope.names.lookup x == some .cell) = true; rw [hl3]; rfl))
  have he : ∀ (s : Shared) (H : Hp) (C : Addr) (cl : List (Str × Addr)) (fp : List Addr), PE (X.blk s H scope (compEnvC scope cl C X.env) fp) e1 (teOf Phi G elt) := fun s H C cl fp =>
    ⟨fun pins s' σ H' Q I h => by
      obtain ⟨b', h⟩ := h
      exact ((ihe _ k F.blk b' WF takes0).1 rfl).run pins s' σ H' Q I h⟩
  cases ifs with
  | nil =>
    refine ⟨tYes, ⟨hi, ok, hg, fun _ _ _ _ _ => pts_nil, he, hs⟩, fun b' σ H Q h => ?_⟩
    have : cnd = .cst (.bl true) := by
      cases cnd with
      | cst d =>
        cases d with
        | bl v => cases v <;> first | rfl | cases hc
        | _ => cases hc
      | _ => cases hc
    subst this
    obtain ⟨g, ts, env, w, Q0, E0, S, q, fin, hx⟩ := h
    simp only [lev] at q
    have hh : Hand G b' g ts [] env w σ H Q0 (fun x H' => ∃ k, TruV G.K x H' k ∧ Q k H') := ⟨by rw [List.append_nil]; exact S, fin⟩
    obtain ⟨k', hk, q9⟩ := hh.scal q (.bl true)
    have e9 : k' = true := hk
    rw [e9] at q9
    exact q9
  | cons e3 r =>
    cases r with
    | nil =>
      refine ⟨ttOf Phi G cnd, ⟨hi, ok, hg, fun s H C cl fp => pts_one ⟨fun pins s' σ H' Q I h => ?_⟩, he, hs⟩, fun b' σ H Q h => ⟨b', h⟩⟩
      obtain ⟨b', h⟩ := h
      exact (((ihc e3 hc _ k F.blk b' WF takes0).2 rfl).1).run pins s' σ H' Q I h
    | cons _ _ => cases hc
theorem CompP.pe {elt tg iter : Expr} {ifs : List Expr} {scope : Scope} {own : List (Str × Nat)} {wi : TI} {g : TG} {tt : TT} {te : TE} (P : CompP X elt tg iter ifs scope own wi g tt te) (hc : X.calm = true) (hN : X.N.Nodup) : PE X (.ListComp elt [⟨tg, iter, ifs, 0⟩] scope pos) (tLc wi g tt te (own.map (·.2))) :=
  pe_lc hc hN P.hi P.ok P.hg P.ht P.he P.hs
end
end LL
end
section
set_option Elab.async false
set_option linter.all false
set_option maxRecDepth 100000
set_option maxHeartbeats 8000000
/-! LChk3: the check, by the form of the mini expression. -/
namespace LL
open PySem L2
section
variable {Fn : Type} {Phi : Fn → LSp} {G : SG}
abbrev SaysC (Phi : Fn → LSp) (G : SG) (m : ME Fn) : Prop := ∀ {t : Bool} {c : Cc Fn} {e : Expr}, chk m t c e = true → SaysX Phi G m t c e
abbrev SaysA (Phi : Fn → LSp) (G : SG) (ms : MEs Fn) : Prop := ∀ {c : Cc Fn} {es : List Expr}, chkA ms c es = true → ∀ X k, FX Phi G k c X → simples es = true ∧ ∀ b W, Takes X W → LA Phi X G b W ms es
theorem copIs_of {o : Cop} {p : CmpOp} (h : copIs o p = true) : p = copOf o := of_decide_eq_true h
theorem ntrue {t : Bool} {P : Prop} (h : (!t) = true) : t = true → P := fun z => by rw [z] at h; cases h
theorem sc_var {i : Nat} : SaysC Phi G (.var i : ME Fn) := fun {t c e} h X k F => by
  cases e with
  | Name x p =>
    obtain ⟨h1, h2, h3, h4⟩ := F.vis (show c.v i x = true by simpa [chk] using h)
    exact says F.T (fun b W tk => le_var h1 h2 h3 h4) fun _ => rfl
  | _ => simp [chk] at h
theorem sc_cst {d : D} : SaysC Phi G (.cst d : ME Fn) := fun {t c e} h X k F => by
  simp only [chk, Bool.and_eq_true] at h
  exact says F.T (fun b W tk => cst_le h.2) (ntrue h.1)
theorem sc_bin {o : Bop} {a b : ME Fn} (ha : SaysC Phi G a) (hb : SaysC Phi G b) : SaysC Phi G (.bin o a b) := fun {t c e} h X k F => by
  cases e with
  | BinOp e1 op e2 p =>
    simp only [chk, Bool.and_eq_true, decide_eq_true_eq] at h
    obtain ⟨⟨⟨h1, rfl⟩, h3⟩, h4⟩ := h
    exact says F.T (fun b W tk => le_bin ((ha h3 X k F b W tk).1 rfl) ((hb h4 X k F b W tk).1 rfl)) (ntrue h1)
  | _ => simp [chk] at h
theorem sc_cmp {o : Cop} {a b : ME Fn} (ha : SaysC Phi G a) (hb : SaysC Phi G b) : SaysC Phi G (.cmp o a b) := fun {t c e} h X k F => by
  cases e with
  | Compare e1 ops es p =>
    cases ops with
    | nil => simp [chk] at h
    | cons op ops =>
      cases ops with
      | cons _ _ => simp [chk] at h
      | nil =>
        cases es with
        | nil => simp [chk] at h
        | cons e2 es =>
          cases es with
          | cons _ _ => simp [chk] at h
          | nil =>
            simp only [chk, Bool.and_eq_true] at h
            obtain ⟨⟨⟨h1, h2⟩, h3⟩, h4⟩ := h
            have := copIs_of h1
            subst this
            exact says2 (fun b W tk => le_cmp F.T.kk F.T.un (simple_in h2 _) ((ha h3 X k F b W tk).1 rfl) ((hb h4 X k F b W tk).1 rfl))
              (fun b W tk => lt_cmp F.T (simple_in h2 _) ((ha h3 X k F b W tk).1 rfl) ((hb h4 X k F b W tk).1 rfl)) fun _ _ _ z => by cases z
  | _ => simp [chk] at h
theorem sc_chain {o p : Cop} {a b d : ME Fn} (ha : SaysC Phi G a) (hb : SaysC Phi G b) (hd : SaysC Phi G d) : SaysC Phi G (.chain o p a b d) := fun {t c e} h X k F => by
  unfold chk at h
  split at h
  · simp only [Bool.and_eq_true, Bool.not_eq_true'] at h
    obtain ⟨⟨⟨⟨⟨h1, h2⟩, h3⟩, h4⟩, h5⟩, h6⟩ := h
    have e1 := copIs_of h1
    have e2 := copIs_of h2
    subst e1; subst e2
    exact says2 (fun b W tk => le_chain F.T h3 ((ha h4 X k F b W tk).1 rfl) ((hb h5 X k F b W tk).1 rfl) ((hd h6 X k F b W tk).1 rfl))
      (fun b W tk => lt_chain F.T h3 ((ha h4 X k F b W tk).1 rfl) ((hb h5 X k F b W tk).1 rfl) ((hd h6 X k F b W tk).1 rfl)) fun _ _ _ z => by cases z
  · cases h
theorem sc_isN {a : ME Fn} (ha : SaysC Phi G a) : SaysC Phi G (.isN a) := fun {t c e} h X k F => by
  unfold chk at h
  split at h
  · exact says2 (fun b W tk => le_isN ((ha h X k F b W tk).1 rfl)) (fun b W tk => lt_isN ((ha h X k F b W tk).1 rfl)) fun _ _ _ z => by cases z
  · cases h
theorem sc_notN {a : ME Fn} (ha : SaysC Phi G a) : SaysC Phi G (.notN a) := fun {t c e} h X k F => by
  unfold chk at h
  split at h
  · exact says2 (fun b W tk => le_notN ((ha h X k F b W tk).1 rfl)) (fun b W tk => lt_notN ((ha h X k F b W tk).1 rfl)) fun _ _ _ z => by cases z
  · cases h
theorem sc_and {a b : ME Fn} (ha : SaysC Phi G a) (hb : SaysC Phi G b) : SaysC Phi G (.and a b) := fun {t c e} h X k F => by
  unfold chk at h
  split at h
  · rename_i e1 e2 rest pos
    simp only [Bool.and_eq_true] at h
    obtain ⟨h1, h2⟩ := h
    cases rest with
    | nil =>
      intro b' W tk
      have i1 := ha h1 X k F b' W tk
      have i2 := hb h2 X k F b' W tk
      refine ⟨fun z => le_and (i1.1 z) (le_and1 (i2.1 z)), fun z => ?_⟩
      have := lt_and (pos := pos) (i1.2 z).1 (lt_and1 (i2.2 z).1)
      exact ⟨this.pt, fun op es p z => by cases z; exact this⟩
    | cons e3 r =>
      intro b' W tk
      have i1 := ha h1 X k F b' W tk
      have i2 := hb h2 X k F b' W tk
      refine ⟨fun z => le_and (i1.1 z) (i2.1 z), fun z => ?_⟩
      have := lt_and (pos := pos) (i1.2 z).1 ((i2.2 z).2 _ _ _ rfl)
      exact ⟨this.pt, fun op es p z => by cases z; exact this⟩
  · cases h
theorem sc_or {a b : ME Fn} (ha : SaysC Phi G a) (hb : SaysC Phi G b) : SaysC Phi G (.or a b) := fun {t c e} h X k F => by
  unfold chk at h
  split at h
  · rename_i e1 e2 rest pos
    simp only [Bool.and_eq_true] at h
    obtain ⟨h1, h2⟩ := h
    cases rest with
    | nil =>
      intro b' W tk
      have i1 := ha h1 X k F b' W tk
      have i2 := hb h2 X k F b' W tk
      refine ⟨fun z => le_or (i1.1 z) (le_or1 (i2.1 z)), fun z => ?_⟩
      have := lt_or (pos := pos) (i1.2 z).1 (lt_or1 (i2.2 z).1)
      exact ⟨this.pt, fun op es p z => by cases z; exact this⟩
    | cons e3 r =>
      intro b' W tk
      have i1 := ha h1 X k F b' W tk
      have i2 := hb h2 X k F b' W tk
      refine ⟨fun z => le_or (i1.1 z) (i2.1 z), fun z => ?_⟩
      have := lt_or (pos := pos) (i1.2 z).1 ((i2.2 z).2 _ _ _ rfl)
      exact ⟨this.pt, fun op es p z => by cases z; exact this⟩
  · cases h
theorem sc_not {a : ME Fn} (ha : SaysC Phi G a) : SaysC Phi G (.not a) := fun {t c e} h X k F => by
  unfold chk at h
  split at h
  · exact fun b' W tk => ⟨fun z => le_not ((ha h X k F b' W tk).1 z), fun z => ⟨lt_not F.T ((ha h X k F b' W tk).2 z).1, fun _ _ _ z => by cases z⟩⟩
  · cases h
theorem sc_idx {a i : ME Fn} (ha : SaysC Phi G a) (hi : SaysC Phi G i) : SaysC Phi G (.idx a i) := fun {t c e} h X k F => by
  unfold chk at h
  split at h
  · simp only [Bool.and_eq_true] at h
    obtain ⟨⟨h1, h2⟩, h3⟩ := h
    exact says F.T (fun b W tk => le_idx F.T (simple_ix h1) ((ha h2 X k F b W tk).1 rfl) ((hi h3 X k F b W tk).1 rfl)) fun _ => rfl
  · cases h
theorem sc_upTo {a : ME Fn} {n : Nat} (ha : SaysC Phi G a) : SaysC Phi G (.upTo a n) := fun {t c e} h X k F => by
  unfold chk at h
  split at h
  · simp only [Bool.and_eq_true, decide_eq_true_eq] at h
    obtain ⟨⟨h1, rfl⟩, h3⟩ := h
    exact says F.T (fun b W tk => le_upTo F.T ((ha h3 X k F b W tk).1 rfl)) fun _ => rfl
  · cases h
theorem sc_from1 {a : ME Fn} (ha : SaysC Phi G a) : SaysC Phi G (.from1 a) := fun {t c e} h X k F => by
  unfold chk at h
  split at h
  · simp only [Bool.and_eq_true, decide_eq_true_eq] at h
    obtain ⟨⟨h1, rfl⟩, h3⟩ := h
    exact says F.T (fun b W tk => le_from1 F.T ((ha h3 X k F b W tk).1 rfl)) fun _ => rfl
  · cases h
theorem sc_attr {a : ME Fn} {f : Fd} (ha : SaysC Phi G a) : SaysC Phi G (.attr a f) := fun {t c e} h X k F => by
  unfold chk at h
  split at h
  · simp only [Bool.and_eq_true, decide_eq_true_eq] at h
    obtain ⟨⟨rfl, h2⟩, h3⟩ := h
    exact says F.T (fun b W tk => le_attr F.T (simple_base h2 _ _) ((ha h3 X k F b W tk).1 rfl)) fun _ => rfl
  · cases h
theorem sc_attrIx {a : ME Fn} {f : Fd} {i : Nat} (ha : SaysC Phi G a) : SaysC Phi G (.attrIx a f i) := fun {t c e} h X k F => by
  unfold chk at h
  split at h
  · simp only [Bool.and_eq_true, decide_eq_true_eq] at h
    obtain ⟨⟨⟨rfl, h2⟩, h3⟩, h4⟩ := h
    obtain ⟨v1, v2⟩ := F.var h4
    exact says F.T (fun b W tk => le_attrIx F.T (simple_base h2 _ _) (simple_ix v2) ((ha h3 X k F b W tk).1 rfl) v1) fun _ => rfl
  · cases h
theorem sc_attrIx2 {a : ME Fn} {f : Fd} {i j : Nat} (ha : SaysC Phi G a) : SaysC Phi G (.attrIx2 a f i j) := fun {t c e} h X k F => by
  unfold chk at h
  split at h
  · simp only [Bool.and_eq_true, decide_eq_true_eq] at h
    obtain ⟨⟨⟨⟨rfl, h2⟩, h3⟩, h4⟩, h5⟩ := h
    obtain ⟨v1, v2⟩ := F.var h4
    obtain ⟨v3, v4⟩ := F.var h5
    exact says F.T (fun b W tk => le_attrIx2 F.T (simple_base h2 _ _) (simple_ix v2) (simple_ix v4) ((ha h3 X k F b W tk).1 rfl) v1 v3) fun _ => rfl
  · cases h
theorem tgIs_of {t : Tg} {e : Expr} (h : tgIs t e = true) : ∃ j p, e = .Constant (.str (tgS t)) j p := by
  unfold tgIs at h
  split at h
  · exact ⟨_, _, by rw [of_decide_eq_true h]⟩
  · cases h
theorem sc_attrGet {a : ME Fn} {f : Fd} {i : Nat} {u : Tg} (ha : SaysC Phi G a) : SaysC Phi G (.attrGet a f i u) := fun {t c e} h X k F => by
  unfold chk at h
  split at h
  · simp only [Bool.and_eq_true, decide_eq_true_eq] at h
    obtain ⟨⟨⟨⟨⟨⟨⟨h1, rfl⟩, rfl⟩, h2⟩, h3⟩, h4⟩, h5⟩, h6⟩ := h
    obtain ⟨v1, v2⟩ := F.var h5
    obtain ⟨j, p, rfl⟩ := tgIs_of h6
    exact says F.T (fun b W tk => le_attrGet F.T h2 v2 h3 ((ha h4 X k F b W tk).1 rfl) v1) fun _ => rfl
  · cases h
theorem sc_tup {es : MEs Fn} (ha : SaysA Phi G es) : SaysC Phi G (.tup es) := fun {t c e} h X k F => by
  unfold chk at h
  split at h
  · simp only [Bool.and_eq_true] at h
    exact says F.T (fun b W tk => le_tup ((ha h.2 X k F).2 b W tk)) (ntrue h.1)
  · cases h
theorem sc_lst {es : MEs Fn} (ha : SaysA Phi G es) : SaysC Phi G (.lst es) := fun {t c e} h X k F => by
  unfold chk at h
  split at h
  · simp only [Bool.and_eq_true] at h
    exact says F.T (fun b W tk => le_lst ((ha h.2 X k F).2 b W tk)) (ntrue h.1)
  · cases h
theorem sc_comp {elt it cnd : ME Fn} {i : Nat} (he : SaysC Phi G elt) (hi : SaysC Phi G it) (hc : SaysC Phi G cnd) : SaysC Phi G (.comp elt i it cnd) := fun {t c e} h X k F => by
  unfold chk at h
  split at h
  · simp only [Bool.and_eq_true] at h
    obtain ⟨⟨⟨⟨⟨⟨h1, h2⟩, h3⟩, h4⟩, h5⟩, h6⟩, h7⟩ := h
    refine says F.T (fun b W tk => ?_) (ntrue h1)
    obtain ⟨tt, P, htt⟩ := comp_parts F (pi_list ((hi h3 X k F b W tk).1 rfl)) (fun _ => simple_fold h2 _ _) h4 h5 h6 (fun e3 q => hc q) (he h7)
    exact PE.imp (P.pe F.calm F.nd) fun σ H Q h => comp_read F.T htt h
  · cases h
theorem sc_compR {elt n cnd : ME Fn} {i : Nat} (he : SaysC Phi G elt) (hi : SaysC Phi G n) (hc : SaysC Phi G cnd) : SaysC Phi G (.compR elt i n cnd) := fun {t c e} h X k F => by
  unfold chk at h
  split at h
  · simp only [Bool.and_eq_true, decide_eq_true_eq] at h
    obtain ⟨⟨⟨⟨⟨⟨⟨⟨h1, rfl⟩, hg⟩, h2⟩, h3⟩, h4⟩, h5⟩, h6⟩, h7⟩ := h
    refine says F.T (fun b W tk => ?_) (ntrue h1)
    obtain ⟨tt, P, htt⟩ := comp_parts F (pi_range1 (F.gl hg).1 (F.T.mgN _ (by decide +kernel)) (pa_cons ((hi h3 X k F b W tk).1 rfl) pa_nil (simple_star h2 _ _)) (simple_star h2 _ _)) (fun _ => rfl) h4 h5 h6 (fun e3 q => hc q) (he h7)
    exact PE.imp (P.pe F.calm F.nd) fun σ H Q h => comp_readR F.T htt h
  · cases h
theorem sc_call {f : Fn} {es : MEs Fn} (ha : SaysA Phi G es) : SaysC Phi G (.call f es) := fun {t c e} h X k F => by
  unfold chk at h
  split at h
  · simp only [Bool.and_eq_true, decide_eq_true_eq] at h
    obtain ⟨⟨⟨h1, rfl⟩, h2⟩, h3⟩ := h
    obtain ⟨n, hn, A⟩ := F.dm f h1
    obtain ⟨hs, hA⟩ := ha h3 X k F
    obtain ⟨g1, g2⟩ := F.gl h2
    exact says F.T (fun b W tk => le_call tk (F.room.mono hn) A g1 g2 hs (hA b W tk)) fun _ => rfl
  · cases h
theorem sc_new {cl : Cl} {f : Fn} {es : MEs Fn} (ha : SaysA Phi G es) : SaysC Phi G (.new cl f es) := fun {t c e} h X k F => by
  unfold chk at h
  split at h
  · simp only [Bool.and_eq_true, decide_eq_true_eq] at h
    obtain ⟨⟨⟨h1, rfl⟩, h2⟩, h3⟩ := h
    obtain ⟨n, hn, A⟩ := F.nw cl f h1
    obtain ⟨hs, hA⟩ := ha h3 X k F
    obtain ⟨g1, g2⟩ := F.gl h2
    exact says F.T (fun b W tk => le_new (F.room.mono hn) A g1 g2 hs (hA b W tk)) fun _ => rfl
  · cases h
theorem sc_meth {cl : Cl} {f : Fn} {o : ME Fn} {es : MEs Fn} (ho : SaysC Phi G o) (ha : SaysA Phi G es) : SaysC Phi G (.meth cl f o es) := fun {t c e} h X k F => by
  unfold chk at h
  split at h
  · rename_i e1 y apos xs cpos
    simp only [Bool.and_eq_true, decide_eq_true_eq] at h
    obtain ⟨⟨⟨⟨⟨⟨h1, rfl⟩, h2⟩, h3⟩, h4⟩, h5⟩, h6⟩ := h
    obtain ⟨n, hn, A⟩ := F.mm cl f h1
    obtain ⟨hs, hA⟩ := ha h6 X k F
    cases xs with
    | nil =>
      cases es with
      | nil => exact says F.T (fun b W tk => le_meth0 F.T tk (F.room.mono hn) A h2 h3 ((ho h4 X k F b W tk).1 rfl)) fun _ => rfl
      | cons _ _ => simp [chkA] at h6
    | cons x xs => exact says F.T (fun b W tk => le_meth F.T tk (F.room.mono hn) A h2 hs h5 h3 ((ho h4 X k F b W tk).1 rfl) (hA b W tk)) fun _ => rfl
  · cases h
theorem sc_blt {f : Bf} {es : MEs Fn} (ha : SaysA Phi G es) : SaysC Phi G (.blt f es) := fun {t c e} h X k F => by
  unfold chk at h
  split at h
  · simp only [Bool.and_eq_true, decide_eq_true_eq] at h
    obtain ⟨⟨rfl, h2⟩, h3⟩ := h
    obtain ⟨hs, hA⟩ := ha h3 X k F
    exact says F.T (fun b W tk => le_blt F.T F.calm (F.gl h2).1 hs (hA b W tk)) fun _ => rfl
  · cases h
theorem sc_isi {a : ME Fn} {u : Ty} (ha : SaysC Phi G a) : SaysC Phi G (.isi a u) := fun {t c e} h X k F => by
  unfold chk at h
  split at h
  · simp only [Bool.and_eq_true, decide_eq_true_eq] at h
    obtain ⟨⟨⟨⟨⟨⟨h1, rfl⟩, h2⟩, rfl⟩, h3⟩, h4⟩, h5⟩ := h
    exact says F.T (fun b W tk => le_isi F.T h1 (F.gl h2).1 (F.gl h3).1 h4 ((ha h5 X k F b W tk).1 rfl)) fun _ => rfl
  · cases h
theorem sc_count {a b : ME Fn} (ha : SaysC Phi G a) (hb : SaysC Phi G b) : SaysC Phi G (.count a b) := fun {t c e} h X k F => by
  unfold chk at h
  split at h
  · simp only [Bool.and_eq_true, decide_eq_true_eq] at h
    obtain ⟨⟨⟨⟨⟨rfl, h2⟩, h3⟩, h4⟩, h5⟩, h6⟩ := h
    exact says F.T (fun b W tk => le_count F.T h2 h3 h4 ((ha h5 X k F b W tk).1 rfl) ((hb h6 X k F b W tk).1 rfl)) fun _ => rfl
  · cases h
theorem sc_dgetD {a b d : ME Fn} (ha : SaysC Phi G a) (hb : SaysC Phi G b) (hd : SaysC Phi G d) : SaysC Phi G (.dgetD a b d) := fun {t c e} h X k F => by
  unfold chk at h
  split at h
  · simp only [Bool.and_eq_true, decide_eq_true_eq] at h
    obtain ⟨⟨⟨⟨⟨⟨⟨rfl, h2⟩, h3⟩, h4⟩, h5⟩, h6⟩, h7⟩, h8⟩ := h
    exact says F.T (fun b W tk => le_dgetD F.T h2 h3 h4 h5 ((ha h6 X k F b W tk).1 rfl) ((hb h7 X k F b W tk).1 rfl) ((hd h8 X k F b W tk).1 rfl)) fun _ => rfl
  · cases h
theorem sa_nil : SaysA Phi G (.nil : MEs Fn) := fun {c es} h X k F => by
  cases es with
  | nil => exact ⟨rfl, fun b W tk => la_nil⟩
  | cons _ _ => simp [chkA] at h
theorem sa_cons {m : ME Fn} {ms : MEs Fn} (hm : SaysC Phi G m) (hs : SaysA Phi G ms) : SaysA Phi G (.cons m ms) := fun {c es} h X k F => by
  cases es with
  | nil => simp [chkA] at h
  | cons e r =>
    simp only [chkA, Bool.and_eq_true] at h
    obtain ⟨⟨h1, h2⟩, h3⟩ := h
    obtain ⟨s1, s2⟩ := hs h3 X k F
    exact ⟨by simp only [simples, List.all_cons, Bool.and_eq_true]; exact ⟨h1, s1⟩, fun b W tk => la_cons h1 ((hm h2 X k F b W tk).1 rfl) (s2 b W tk)⟩
mutual
theorem chk_ok : ∀ m : ME Fn, SaysC Phi G m
  | .var i => sc_var
  | .cst d => sc_cst
  | .bin o a b => sc_bin (chk_ok a) (chk_ok b)
  | .cmp o a b => sc_cmp (chk_ok a) (chk_ok b)
  | .chain o p a b d => sc_chain (chk_ok a) (chk_ok b) (chk_ok d)
  | .isN a => sc_isN (chk_ok a)
  | .notN a => sc_notN (chk_ok a)
  | .and a b => sc_and (chk_ok a) (chk_ok b)
  | .or a b => sc_or (chk_ok a) (chk_ok b)
  | .not a => sc_not (chk_ok a)
  | .idx a i => sc_idx (chk_ok a) (chk_ok i)
  | .upTo a n => sc_upTo (chk_ok a)
  | .from1 a => sc_from1 (chk_ok a)
  | .attr a f => sc_attr (chk_ok a)
  | .attrIx a f i => sc_attrIx (chk_ok a)
  | .attrIx2 a f i j => sc_attrIx2 (chk_ok a)
  | .attrGet a f k t => sc_attrGet (chk_ok a)
  | .tup es => sc_tup (chkA_ok es)
  | .lst es => sc_lst (chkA_ok es)
  | .comp elt i it cnd => sc_comp (chk_ok elt) (chk_ok it) (chk_ok cnd)
  | .compR elt i n cnd => sc_compR (chk_ok elt) (chk_ok n) (chk_ok cnd)
  | .call f es => sc_call (chkA_ok es)
  | .new cl f es => sc_new (chkA_ok es)
  | .meth cl f o es => sc_meth (chk_ok o) (chkA_ok es)
  | .blt f es => sc_blt (chkA_ok es)
  | .isi a t => sc_isi (chk_ok a)
  | .count a b => sc_count (chk_ok a) (chk_ok b)
  | .dgetD a k d => sc_dgetD (chk_ok a) (chk_ok k) (chk_ok d)
theorem chkA_ok : ∀ ms : MEs Fn, SaysA Phi G ms
  | .nil => sa_nil
  | .cons m ms => sa_cons (chk_ok m) (chkA_ok ms)
end
end
end LL
end
section
set_option Elab.async false
set_option linter.all false
set_option maxRecDepth 100000
set_option maxHeartbeats 8000000
/-! LChk4: the check of statements. -/
namespace LL
open PySem L2
section
variable {Fn : Type}
def Cc.asn (c : Cc Fn) (i : Nat) (x : Str) : Bool := decide (c.N[i]? = some x) && (decide (c.sc.names.lookup x = some .local) || decide (c.sc.names.lookup x = some .cell))
/-- name = value: nothing is stored behind the comprehension's end in another order but where the name is a plain local -/
def swOk (c : Cc Fn) (x : Str) (px : Pos) (l : Nat) : Expr → Bool
  | .ListComp _ _ scope lp => (decide (c.sc.names.lookup x = some .cell)) || (decide (c.sc.names.lookup x = some .local) && px.line == lp.line && !(scope.names.any fun (n, k) => n == x && (k == .local || k == .cell)))
  | .SetComp _ _ _ _ => false
  | .DictComp _ _ _ _ _ => false
  | _ => true
def chkP (c : Cc Fn) : ME Fn → Expr → Bool
  | .var i, e => c.ve i e
  | .idx (.var i) (.cst (.int n)), e => match e with
    | .Subscript e1 (.Constant (.int k) _ _) _ => c.ve i e1 && decide (k = n)
    | _ => false
  | _, _ => false
def isOne : Expr → Bool
  | .UnaryOp .USub (.Constant (.int k) _ _) _ => decide (k = 1)
  | _ => false
/-- [[d] * n for j in range(n)] -/
def chkSq (c : Cc Fn) (dv : Bool) (j n : Nat) : Expr → Bool
  | .ListComp (.BinOp (.List [.Constant (.bool v) _ _] _) .Mult e2 _) [⟨.Name y _, .Call (.Name z _) [e3] [] _, [], 0⟩] scope _ =>
    (v == dv) && decide (z = "range") && c.glob "range" && (c.blk scope).ve n e2 && c.ve n e3 && blkC c.N c.sc scope [(y, j)] && c.loc scope j y
  | _ => false
def isFrz : MS Fn → Bool
  | .frz _ => true
  | _ => false
def isZero : ME Fn → Bool
  | .cst (.int k) => decide (k = 0)
  | _ => false
def isSeq : MS Fn → Bool
  | .seq _ _ => true
  | _ => false
def chkS : MS Fn → Cc Fn → List Stmt → Bool
  | .skip, c, ss => match ss with
    | [] => true
    | [.Pass _] => true
    | _ => false
  | .seq a b, c, ss => if isFrz a then chkS b c ss else match ss with
    | s :: r => !isSeq a && chkS a c [s] && chkS b c r
    | [] => false
  | .frz _, _, _ => false
  | .asg i m, c, ss => match ss with
    | [.Assign [.Name x p] e q] => c.asn i x && swOk c x p q.line e && chk m false c e
    | _ => false
  | .asgL i m, c, ss => match ss with
    | [.Assign [.Name x p] e q] => c.asn i x && swOk c x p q.line e && chk m false c e
    | _ => false
  | .asgD i, c, ss => match ss with
    | [.Assign [.Name x _] (.Dict [] [] _) _] => c.asn i x
    | _ => false
  | .asgM i d j n, c, ss => match ss, d with
    | [.Assign [.Name x p] e q], .bl dv => c.asn i x && swOk c x p q.line e && chkSq c dv j n e
    | _, _ => false
  | .setIx i k m, c, ss => match ss with
    | [.Assign [.Subscript (.Name x _) e1 _] e _] => c.v i x && simple e1 && chk k false c e1 && chk m false c e
    | _ => false
  | .setIx2 i k l m, c, ss => match ss with
    | [.Assign [.Subscript (.Subscript e3 e1 _) e2 _] e _] => c.ve i e3 && simple e1 && simple e2 && chk k false c e1 && chkP c l e2 && chk m false c e
    | _ => false
  | .setAt o f m, c, ss => match ss with
    | [.Assign [.Attribute e1 x _] e _] => decide (x = fdS f) && chk o false c e1 && chk m false c e
    | _ => false
  | .setAtL o f m, c, ss => match ss with
    | [.Assign [.Attribute e1 x _] e _] => decide (x = fdS f) && chk o false c e1 && chk m false c e
    | _ => false
  | .setAtD o f, c, ss => match ss with
    | [.Assign [.Attribute e1 x _] (.Dict [] [] _) _] => decide (x = fdS f) && chk o false c e1
    | _ => false
  | .setAtM o f d j n, c, ss => match ss, d with
    | [.Assign [.Attribute e1 x _] e _], .bl dv => decide (x = fdS f) && c.ve o e1 && chkSq c dv j n e
    | _, _ => false
  | .setFIx o f k m, c, ss => match ss with
    | [.Assign [.Subscript (.Attribute e1 x _) e2 _] e _] => decide (x = fdS f) && simple e1 && chk o false c e1 && c.ve k e2 && chk m false c e
    | _ => false
  | .setFIx2 o f k l m, c, ss => match ss with
    | [.Assign [.Subscript (.Subscript (.Attribute e1 x _) e2 _) e3 _] e _] => decide (x = fdS f) && simple e1 && chk o false c e1 && c.ve k e2 && c.ve l e3 && chk m false c e
    | _ => false
  | .expr m, c, ss => match ss with
    | [.Expr e _] => noComp e && chk m false c e
    | _ => false
  | .app i m, c, ss => match ss with
    | [.Expr (.Call (.Attribute (.Name x _) y apos) [e] [] cpos) _] => decide (y = "append") && c.v i x && simple e && sameLine apos cpos && chk m false c e
    | _ => false
  | .rev i, c, ss => match ss with
    | [.Expr (.Call (.Attribute (.Name x _) y apos) [] [] cpos) _] => decide (y = "reverse") && c.v i x && sameLine apos cpos
    | _ => false
  | .clr i, c, ss => match ss with
    | [.Expr (.Call (.Attribute (.Name x _) y apos) [] [] cpos) _] => decide (y = "clear") && c.v i x && sameLine apos cpos
    | _ => false
  | .appT a m, c, ss => match ss with
    | [.Expr (.Call (.Attribute e1 y apos) [e] [] cpos) _] => decide (y = "append") && simple e1 && simple e && sameLine apos cpos && chk a false c e1 && chk m false c e
    | _ => false
  | .clrT a, c, ss => match ss with
    | [.Expr (.Call (.Attribute e1 y apos) [] [] cpos) _] => decide (y = "clear") && simple e1 && sameLine apos cpos && chk a false c e1
    | _ => false
  | .ifS m a b, c, ss => match ss with
    | [.If e s1 s2 _] => chk m true c e && chkS a c s1 && chkS b c s2
    | _ => false
  | .forR i lo hi body, c, ss => match ss with
    | [.For (.Name x _) (.Call (.Name y _) args [] _) s1 [] _] => decide (y = "range") && c.glob "range" && c.asn i x && chkS body c s1 && (match args with
      | [e1] => isZero lo && simple e1 && chk hi false c e1
      | [e1, e2] => simple e1 && simple e2 && chk lo false c e1 && chk hi false c e2
      | _ => false)
    | _ => false
  | .forD i hi body, c, ss => match ss with
    | [.For (.Name x _) (.Call (.Name y _) [e1, e2, e3] [] _) s1 [] _] => decide (y = "range") && c.glob "range" && c.asn i x && chkS body c s1 && simple e1 && chk hi false c e1 && isOne e2 && isOne e3
    | _ => false
  | .forL i m body, c, ss => match ss with
    | [.For (.Name x _) e1 s1 [] _] => c.asn i x && chkS body c s1 && simple e1 && chk m false c e1
    | _ => false
  | .forT i m body, c, ss => match ss with
    | [.For (.Name x _) e1 s1 [] _] => c.asn i x && chkS body c s1 && simple e1 && chk m false c e1
    | _ => false
  | .whileT body, c, ss => match ss with
    | [.While (.Constant (.bool v) _ _) s1 [] _] => v && chkS body c s1
    | _ => false
  | .ret m, c, ss => match ss with
    | [.Return (some e) _] => chk m false c e
    | _ => false
  | .retN, c, ss => match ss with
    | [.Return none _] => true
    | _ => false
  | .raise x, c, ss => match ss with
    | [.Raise (some (.Call (.Name y _) [.Constant (.str _) _ _] [] _)) none _] => c.fX x && decide (y = c.xn x) && c.glob (c.xn x)
    | _ => false
  | .tryE _ _ _, _, _ => false
/-- what the statements need besides -/
structure FS (Phi : Fn → LSp) (G : SG) (k : Nat) (c : Cc Fn) (X : Cx) : Prop extends FX Phi G k c X where
  fnT : ∀ x, X.fn x = true
  psd : PassesOwn (model X.prog X.w) X.A X.env X.xe
  knd : X.env.scope.kind = .function
variable {Phi : Fn → LSp} {G : SG} {X : Cx} {k : Nat} {c : Cc Fn} {b : Bs} {W : WX} {e e1 e2 : Expr} {pos p1 : Pos}
theorem FS.slo (F : FS Phi G k c X) {i : Nat} {x : Str} (h : c.asn i x = true) : Slo X i x := by
  simp only [Cc.asn, Bool.and_eq_true, Bool.or_eq_true, decide_eq_true_eq] at h
  refine ⟨by rw [F.N]; exact h.1, ?_, .inl (F.fnT x)⟩
  unfold L2.Loc
  rw [F.sc]
  exact h.2
theorem FX.vx (F : FX Phi G k c X) {i : Nat} {x : Str} (h : c.v i x = true) : PE X (.Name x p1) (tVar i) := by
  obtain ⟨h1, h2, h3, h4⟩ := F.vis h
  exact pe_var h1 h2 h3 h4
/-- a comprehension that the check knows -/
theorem chk_comp {m : ME Fn} {gs : List Comprehension} {scope : Scope} (h : chk m false c (.ListComp e1 gs scope pos) = true) (F : FX Phi G k c X) (tk : Takes X W) :
    ∃ tg iter ifs own wi g tt te, gs = [⟨tg, iter, ifs, 0⟩] ∧ CompP X e1 tg iter ifs scope own wi g tt te ∧ ∀ σ H Q, tE G b W (lev Phi m) σ H Q → tLc wi g tt te (own.map (·.2)) σ H Q := by
  cases m with
  | comp elt i it cnd =>
    unfold chk at h
    split at h
    · rename_i he
      cases he
      simp only [Bool.and_eq_true] at h
      obtain ⟨⟨⟨⟨⟨⟨h1, h2⟩, h3⟩, h4⟩, h5⟩, h6⟩, h7⟩ := h
      obtain ⟨tt, P, htt⟩ := comp_parts F (pi_list ((chk_ok it h3 X k F b W tk).1 rfl)) (fun _ => simple_fold h2 _ _) h4 h5 h6 (fun e3 q => chk_ok cnd q) (chk_ok elt h7)
      exact ⟨_, _, _, _, _, _, _, _, rfl, P, fun σ H Q h => comp_read F.T htt h⟩
    · cases h
  | compR elt i n cnd =>
    unfold chk at h
    split at h
    · rename_i he
      cases he
      simp only [Bool.and_eq_true, decide_eq_true_eq] at h
      obtain ⟨⟨⟨⟨⟨⟨⟨⟨h1, rfl⟩, hg⟩, h2⟩, h3⟩, h4⟩, h5⟩, h6⟩, h7⟩ := h
      obtain ⟨tt, P, htt⟩ := comp_parts F (pi_range1 (F.gl hg).1 (F.T.mgN _ (by decide +kernel)) (pa_cons ((chk_ok n h3 X k F b W tk).1 rfl) pa_nil (simple_star h2 _ _)) (simple_star h2 _ _)) (fun _ => rfl) h4 h5 h6 (fun e3 q => chk_ok cnd q) (chk_ok elt h7)
      exact ⟨_, _, _, _, _, _, _, _, rfl, P, fun σ H Q h => comp_readR F.T htt h⟩
    · cases h
  | cst d => cases d <;> simp [chk, cstOk] at h
  | _ => simp [chk] at h
theorem sw_cell {gs : List Comprehension} {scope : Scope} {y : Str} {py : Pos} {l : Nat} {env : PySem.Env} (hy : env.scope.names.lookup y = some .cell) : swapsWith (.ListComp e1 gs scope pos) (some (.Name y py)) l env = pure false := by
  have ky : env.kindOf y = some .cell := hy
  unfold swapsWith
  simp only [ky]
  show pure (env.blockKind == .function && false && _ && _) = _
  simp
/-- name = value -/
theorem asg_any {m : ME Fn} {i : Nat} {x : Str} {τ : TS} (F : FS Phi G k c X) (tk : Takes X W) (ha : c.asn i x = true) (hs : swOk c x p1 pos.line e = true) (h : chk m false c e = true) (hr : ∀ D σ H, τ D σ H → tE G b W (lev Phi m) σ H fun x H1 => gName i x σ H1 D.nx) : PS X (.Assign [.Name x p1] e pos) τ := by
  have sl := F.slo ha
  by_cases hn : noComp e = true
  · exact PS.imp (ps_set F.nd sl.hi sl.loc ((chk_ok m h X k F.toFX b W tk).1 rfl) (sw_none hn) sl.fn) fun D σ H h => hr D σ H h
  · cases e with
    | ListComp e1 gs scope lp =>
      obtain ⟨tg, iter, ifs, own, wi, g, tt, te, rfl, P, hrd⟩ := chk_comp (b := b) (W := W) h F.toFX tk
      simp only [swOk, Bool.or_eq_true, Bool.and_eq_true, decide_eq_true_eq, Bool.not_eq_true'] at hs
      rcases hs with hs | ⟨⟨h1, h2⟩, h3⟩
      · have hs' : X.env.scope.names.lookup x = some .cell := by rw [F.sc]; exact hs
        exact PS.imp (ps_set F.nd sl.hi sl.loc (P.pe F.calm F.nd) (sw_cell hs') sl.fn) fun D σ H h => hrd _ _ _ (hr D σ H h)
      · have h1' : X.env.scope.names.lookup x = some .local := by rw [F.sc]; exact h1
        exact PS.imp (ps_setLc F.calm F.nd sl.hi h1' (sw_true F.knd h1' h2 h3) P.hi P.ok P.hg P.ht P.he P.hs) fun D σ H h => hrd _ _ _ (hr D σ H h)
    | SetComp _ _ _ _ => simp [swOk] at hs
    | DictComp _ _ _ _ _ => simp [swOk] at hs
    | _ => exact absurd rfl hn
/-- the square's parts -/
theorem sq_parts {dv : Bool} {j n : Nat} (F : FX Phi G k c X) (h : chkSq c dv j n e = true) : ∃ e1 tg iter scope lp own, e = .ListComp e1 [⟨tg, iter, [], 0⟩] scope lp ∧ CompP X e1 tg iter [] scope own (iRng1 (tCons (tVar n) tNil)) (gName j) tYes (teSq dv n) ∧ own.map (·.2) = [j] := by
  unfold chkSq at h
  split at h
  · simp only [Bool.and_eq_true, decide_eq_true_eq, beq_iff_eq] at h
    obtain ⟨⟨⟨⟨⟨⟨rfl, rfl⟩, h1⟩, h2⟩, h3⟩, h4⟩, h5⟩ := h
    rename_i scope _
    obtain ⟨v3, s3⟩ := F.var h3
    refine ⟨_, _, _, _, _, _, rfl, ⟨pi_range1 (F.gl h1).1 (F.T.mgN _ (by decide +kernel)) (pa_cons v3 pa_nil (simple_star s3 _ _)) (simple_star s3 _ _), by rw [F.N, F.sc]; exact blkOk_by h4, fun s H C cl fp => ?_, fun _ _ _ _ _ => pts_nil, fun s H C cl fp => ?_, fun _ => rfl⟩, rfl⟩
    · have F' := F.blk (scope := scope) (s := s) (H := H) (C := C) (cl := cl) (fp := fp)
      simp only [Cc.loc, Bool.and_eq_true, Bool.or_eq_true, decide_eq_true_eq] at h5
      have hsc : (X.blk s H scope (compEnvC scope cl C X.env) fp).env.scope = relS scope c.sc := F'.sc
      obtain ⟨hl1, hl | ⟨hl3, hl⟩⟩ := h5
      · rw [← hsc] at hl
        exact pg_name F'.nd (by rw [F'.N]; exact hl1) (.inl hl) (.inr hl)
      · rw [← hsc] at hl
        exact pg_name F'.nd (by rw [F'.N]; exact hl1) (.inr hl) (.inl (by show (scope.names.lookup _ == some .cell) = true; rw [hl3]; rfl))
    · have F' := F.blk (scope := scope) (s := s) (H := H) (C := C) (cl := cl) (fp := fp)
      exact pe_op op_rep (pe_lst (pa_cons pe_bl pa_nil)) (F'.var h2).1
  · cases h
theorem asgM_any {i : Nat} {x : Str} {dv : Bool} {j n : Nat} (F : FS Phi G k c X) (ha : c.asn i x = true) (hs : swOk c x p1 pos.line e = true) (h : chkSq c dv j n e = true) : LS Phi X G b W (.asgM i (.bl dv) j n) (.Assign [.Name x p1] e pos) := by
  have sl := F.slo ha
  obtain ⟨e1, tg, iter, scope, lp, own, rfl, P, ho⟩ := sq_parts F.toFX h
  simp only [swOk, Bool.or_eq_true, Bool.and_eq_true, decide_eq_true_eq, Bool.not_eq_true'] at hs
  rcases hs with hs | ⟨⟨h1, h2⟩, h3⟩
  · have hs' : X.env.scope.names.lookup x = some .cell := by rw [F.sc]; exact hs
    exact PS.imp (ps_set F.nd sl.hi sl.loc (P.pe F.calm F.nd) (sw_cell hs') sl.fn) fun D σ H h => by rw [ho]; exact asgM_read h
  · have h1' : X.env.scope.names.lookup x = some .local := by rw [F.sc]; exact h1
    exact PS.imp (ps_setLc F.calm F.nd sl.hi h1' (sw_true F.knd h1' h2 h3) P.hi P.ok P.hg P.ht P.he P.hs) fun D σ H h => by rw [ho]; exact asgM_read h
end
end LL
end
section
set_option Elab.async false
set_option linter.all false
set_option maxRecDepth 100000
set_option maxHeartbeats 8000000
/-! LChk5: the check of statements is sound. -/
namespace LL
open PySem L2
section
variable {Fn : Type} {Phi : Fn → LSp} {G : SG} {X : Cx} {k : Nat} {c : Cc Fn} {b : Bs} {W : WX} {e e1 e2 : Expr} {pos p1 : Pos}
abbrev SaysS (Phi : Fn → LSp) (G : SG) (m : MS Fn) : Prop := ∀ (c : Cc Fn) (ss : List Stmt), chkS m c ss = true → ∀ X k, FS Phi G k c X → ∀ b W, Takes X W → LSs Phi X G b W m ss ∧ (isSeq m = false → ∀ s, ss = [s] → LS Phi X G b W m s)
theorem just {m : MS Fn} {ss : List Stmt} (h : ∃ s, ss = [s] ∧ LS Phi X G b W m s) : LSs Phi X G b W m ss ∧ (isSeq m = false → ∀ s, ss = [s] → LS Phi X G b W m s) := by
  obtain ⟨s, rfl, h⟩ := h
  exact ⟨ls_one h, fun _ s' e => by cases e; exact h⟩
theorem FS.le {m : ME Fn} (F : FS Phi G k c X) (tk : Takes X W) (h : chk m false c e = true) : LE Phi X G b W m e := (chk_ok m h X k F.toFX b W tk).1 rfl
theorem FS.lt {m : ME Fn} (F : FS Phi G k c X) (tk : Takes X W) (h : chk m true c e = true) : LT Phi X G b W m e := ((chk_ok m h X k F.toFX b W tk).2 rfl).1
theorem isZero_of {m : ME Fn} (h : isZero m = true) : m = .cst (.int 0) := by
  cases m with
  | cst d =>
    cases d with
    | int i => rw [show i = 0 from of_decide_eq_true h]
    | _ => cases h
  | _ => cases h
theorem isOne_of (h : isOne e = true) : ∃ j p q, e = .UnaryOp .USub (.Constant (.int 1) j p) q := by
  unfold isOne at h
  split at h
  · exact ⟨_, _, _, by rw [of_decide_eq_true h]⟩
  · cases h
theorem chkP_of {m : ME Fn} (F : FX Phi G k c X) (h : chkP c m e = true) : ∃ tl, PureIx Phi G m tl ∧ PE X e tl := by
  unfold chkP at h
  split at h
  · exact ⟨_, pure_var, (F.var h).1⟩
  · split at h
    · simp only [Bool.and_eq_true, decide_eq_true_eq] at h
      obtain ⟨h1, rfl⟩ := h
      exact ⟨_, pure_idx F.T, pe_ix (IxR.or ix_list ix_tup) (F.var h1).1 pe_int (simple_ix rfl)⟩
    · cases h
  · cases h
theorem chkS_ok : ∀ m : MS Fn, SaysS Phi G m
  | .skip => fun c ss h X k F b W tk => by
    unfold chkS at h
    split at h
    · exact ⟨ls_nil, fun _ s e => by cases e⟩
    · exact just ⟨_, rfl, ls_pass⟩
    · cases h
  | .seq a d => fun c ss h X k F b W tk => by
    unfold chkS at h
    split at h
    · rename_i hf
      cases a with
      | frz i => exact ⟨ls_frz (chkS_ok d _ _ h X k F b W tk).1, fun z => by cases z⟩
      | _ => cases hf
    · split at h
      · simp only [Bool.and_eq_true, Bool.not_eq_true'] at h
        obtain ⟨⟨h1, h2⟩, h3⟩ := h
        exact ⟨ls_cons ((chkS_ok a _ _ h2 X k F b W tk).2 h1 _ rfl) (chkS_ok d _ _ h3 X k F b W tk).1, fun z => by cases z⟩
      · cases h
  | .frz i => fun c ss h X k F b W tk => by simp [chkS] at h
  | .asg i m => fun c ss h X k F b W tk => by
    unfold chkS at h
    split at h
    · simp only [Bool.and_eq_true] at h
      exact just ⟨_, rfl, asg_any F tk h.1.1 h.1.2 h.2 fun D σ H h => asg_read h⟩
    · cases h
  | .asgL i m => fun c ss h X k F b W tk => by
    unfold chkS at h
    split at h
    · simp only [Bool.and_eq_true] at h
      exact just ⟨_, rfl, asg_any F tk h.1.1 h.1.2 h.2 fun D σ H h => asgL_read h⟩
    · cases h
  | .asgD i => fun c ss h X k F b W tk => by
    unfold chkS at h
    split at h
    · exact just ⟨_, rfl, ls_asgD F.nd (F.slo h) (sw_none rfl)⟩
    · cases h
  | .asgM i d j n => fun c ss h X k F b W tk => by
    unfold chkS at h
    split at h
    · simp only [Bool.and_eq_true] at h
      exact just ⟨_, rfl, asgM_any F h.1.1 h.1.2 h.2⟩
    · cases h
  | .setIx i kx m => fun c ss h X k F b W tk => by
    unfold chkS at h
    split at h
    · simp only [Bool.and_eq_true] at h
      obtain ⟨⟨⟨h1, h2⟩, h3⟩, h4⟩ := h
      exact just ⟨_, rfl, ls_setIx F.T (F.vx h1) (F.le tk h4) (F.le tk h3) h2⟩
    · cases h
  | .setIx2 i kx l m => fun c ss h X k F b W tk => by
    unfold chkS at h
    split at h
    · simp only [Bool.and_eq_true] at h
      obtain ⟨⟨⟨⟨⟨h1, h2⟩, h3⟩, h4⟩, h5⟩, h6⟩ := h
      obtain ⟨tl, p1, p2⟩ := chkP_of F.toFX h5
      exact just ⟨_, rfl, ls_setIx2 F.T p1 (F.var h1).1 (F.le tk h6) (F.le tk h4) (simple_ix h2) h3 p2⟩
    · cases h
  | .setAt o f m => fun c ss h X k F b W tk => by
    unfold chkS at h
    split at h
    · simp only [Bool.and_eq_true, decide_eq_true_eq] at h
      obtain ⟨⟨rfl, h2⟩, h3⟩ := h
      exact just ⟨_, rfl, ls_setAt F.T (F.le tk h3) (F.le tk h2)⟩
    · cases h
  | .setAtL o f m => fun c ss h X k F b W tk => by
    unfold chkS at h
    split at h
    · simp only [Bool.and_eq_true, decide_eq_true_eq] at h
      obtain ⟨⟨rfl, h2⟩, h3⟩ := h
      exact just ⟨_, rfl, ls_setAtL F.T (F.le tk h3) (F.le tk h2)⟩
    · cases h
  | .setAtD o f => fun c ss h X k F b W tk => by
    unfold chkS at h
    split at h
    · simp only [Bool.and_eq_true, decide_eq_true_eq] at h
      obtain ⟨rfl, h2⟩ := h
      exact just ⟨_, rfl, ls_setAtD F.T (F.le tk h2)⟩
    · cases h
  | .setAtM o f d j n => fun c ss h X k F b W tk => by
    unfold chkS at h
    split at h
    · simp only [Bool.and_eq_true, decide_eq_true_eq] at h
      obtain ⟨⟨rfl, h2⟩, h3⟩ := h
      obtain ⟨e1, tg, iter, scope, lp, own, rfl, P, ho⟩ := sq_parts F.toFX h3
      exact just ⟨_, rfl, PS.imp (ps_fld (F.var h2).1 (P.pe F.calm F.nd) sw_attr) fun D σ H h => by rw [ho]; exact setAtM_read F.T h⟩
    · cases h
  | .setFIx o f kx m => fun c ss h X k F b W tk => by
    unfold chkS at h
    split at h
    · simp only [Bool.and_eq_true, decide_eq_true_eq] at h
      obtain ⟨⟨⟨⟨rfl, h2⟩, h3⟩, h4⟩, h5⟩ := h
      obtain ⟨v, s⟩ := F.var h4
      exact just ⟨_, rfl, ls_setFIx F.T h2 (F.le tk h5) (F.le tk h3) v s⟩
    · cases h
  | .setFIx2 o f kx l m => fun c ss h X k F b W tk => by
    unfold chkS at h
    split at h
    · simp only [Bool.and_eq_true, decide_eq_true_eq] at h
      obtain ⟨⟨⟨⟨⟨rfl, h2⟩, h3⟩, h4⟩, h5⟩, h6⟩ := h
      obtain ⟨v, s⟩ := F.var h4
      obtain ⟨v2, s2⟩ := F.var h5
      exact just ⟨_, rfl, ls_setFIx2 F.T h2 (F.le tk h6) (F.le tk h3) v s v2 s2⟩
    · cases h
  | .expr m => fun c ss h X k F b W tk => by
    unfold chkS at h
    split at h
    · simp only [Bool.and_eq_true] at h
      exact just ⟨_, rfl, ls_expr (sw_none h.1) (F.le tk h.2)⟩
    · cases h
  | .app i m => fun c ss h X k F b W tk => by
    unfold chkS at h
    split at h
    · simp only [Bool.and_eq_true, decide_eq_true_eq] at h
      obtain ⟨⟨⟨⟨rfl, h2⟩, h3⟩, h4⟩, h5⟩ := h
      exact just ⟨_, rfl, ls_app (F.vx h2) h3 h4 (F.le tk h5) (sw_none rfl)⟩
    · cases h
  | .rev i => fun c ss h X k F b W tk => by
    unfold chkS at h
    split at h
    · simp only [Bool.and_eq_true, decide_eq_true_eq] at h
      obtain ⟨⟨rfl, h2⟩, h4⟩ := h
      exact just ⟨_, rfl, ls_rev (F.vx h2) h4 (sw_none rfl)⟩
    · cases h
  | .clr i => fun c ss h X k F b W tk => by
    unfold chkS at h
    split at h
    · simp only [Bool.and_eq_true, decide_eq_true_eq] at h
      obtain ⟨⟨rfl, h2⟩, h4⟩ := h
      exact just ⟨_, rfl, ls_clr (F.vx h2) h4 (sw_none rfl)⟩
    · cases h
  | .appT a m => fun c ss h X k F b W tk => by
    unfold chkS at h
    split at h
    · simp only [Bool.and_eq_true, decide_eq_true_eq] at h
      obtain ⟨⟨⟨⟨⟨rfl, h2⟩, h3⟩, h4⟩, h5⟩, h6⟩ := h
      exact just ⟨_, rfl, ls_appT h2 h3 h4 (F.le tk h5) (F.le tk h6) (sw_none rfl)⟩
    · cases h
  | .clrT a => fun c ss h X k F b W tk => by
    unfold chkS at h
    split at h
    · simp only [Bool.and_eq_true, decide_eq_true_eq] at h
      obtain ⟨⟨⟨rfl, h2⟩, h4⟩, h5⟩ := h
      exact just ⟨_, rfl, ls_clrT h2 h4 (F.le tk h5) (sw_none rfl)⟩
    · cases h
  | .ifS m a d => fun c ss h X k F b W tk => by
    unfold chkS at h
    split at h
    · simp only [Bool.and_eq_true] at h
      obtain ⟨⟨h1, h2⟩, h3⟩ := h
      exact just ⟨_, rfl, ls_if F.T (F.lt tk h1) (chkS_ok a _ _ h2 X k F b W tk).1 (chkS_ok d _ _ h3 X k F b W tk).1⟩
    · cases h
  | .forR i lo hi body => fun c ss h X k F b W tk => by
    unfold chkS at h
    split at h
    · simp only [Bool.and_eq_true, decide_eq_true_eq] at h
      obtain ⟨⟨⟨⟨rfl, h2⟩, h3⟩, h4⟩, h5⟩ := h
      split at h5
      · simp only [Bool.and_eq_true] at h5
        obtain ⟨⟨z, h6⟩, h7⟩ := h5
        have := isZero_of z
        subst this
        exact just ⟨_, rfl, ls_forR1 F.T F.psd F.calm F.nd (F.slo h3) (F.gl h2).1 h6 (F.le tk h7) (chkS_ok body _ _ h4 X k F b W tk).1⟩
      · simp only [Bool.and_eq_true] at h5
        obtain ⟨⟨⟨h6, h7⟩, h8⟩, h9⟩ := h5
        exact just ⟨_, rfl, ls_forR2 F.T F.psd F.calm F.nd (F.slo h3) (F.gl h2).1 h6 h7 (F.le tk h8) (F.le tk h9) (chkS_ok body _ _ h4 X k F b W tk).1⟩
      · cases h5
    · cases h
  | .forD i hi body => fun c ss h X k F b W tk => by
    unfold chkS at h
    split at h
    · simp only [Bool.and_eq_true, decide_eq_true_eq] at h
      obtain ⟨⟨⟨⟨⟨⟨⟨rfl, h2⟩, h3⟩, h4⟩, h5⟩, h6⟩, h7⟩, h8⟩ := h
      obtain ⟨_, _, _, rfl⟩ := isOne_of h7
      obtain ⟨_, _, _, rfl⟩ := isOne_of h8
      exact just ⟨_, rfl, ls_forD F.T F.psd F.calm F.nd (F.slo h3) (F.gl h2).1 h5 (F.le tk h6) (chkS_ok body _ _ h4 X k F b W tk).1⟩
    · cases h
  | .forL i m body => fun c ss h X k F b W tk => by
    unfold chkS at h
    split at h
    · simp only [Bool.and_eq_true] at h
      obtain ⟨⟨⟨h3, h4⟩, h5⟩, h6⟩ := h
      exact just ⟨_, rfl, ls_forL F.T F.psd F.calm F.nd (F.slo h3) h5 (F.le tk h6) (chkS_ok body _ _ h4 X k F b W tk).1⟩
    · cases h
  | .forT i m body => fun c ss h X k F b W tk => by
    unfold chkS at h
    split at h
    · simp only [Bool.and_eq_true] at h
      obtain ⟨⟨⟨h3, h4⟩, h5⟩, h6⟩ := h
      exact just ⟨_, rfl, ls_forT F.T F.psd F.calm F.nd (F.slo h3) h5 (F.le tk h6) (chkS_ok body _ _ h4 X k F b W tk).1⟩
    · cases h
  | .whileT body => fun c ss h X k F b W tk => by
    unfold chkS at h
    split at h
    · simp only [Bool.and_eq_true] at h
      obtain ⟨rfl, h4⟩ := h
      exact just ⟨_, rfl, ls_while F.psd (chkS_ok body _ _ h4 X k F b W tk).1⟩
    · cases h
  | .ret m => fun c ss h X k F b W tk => by
    unfold chkS at h
    split at h
    · exact just ⟨_, rfl, ls_ret (F.le tk h)⟩
    · cases h
  | .retN => fun c ss h X k F b W tk => by
    unfold chkS at h
    split at h
    · exact just ⟨_, rfl, ls_retN⟩
    · cases h
  | .raise x => fun c ss h X k F b W tk => by
    unfold chkS at h
    split at h
    · simp only [Bool.and_eq_true, decide_eq_true_eq] at h
      obtain ⟨⟨h1, rfl⟩, h3⟩ := h
      obtain ⟨g1, g2⟩ := F.gl h3
      exact just ⟨_, rfl, ls_raise F.calm tk (F.xx x h1) g1 g2⟩
    · cases h
  | .tryE _ _ _ => fun c ss h X k F b W tk => by simp [chkS] at h
end
end LL
end
section
set_option Elab.async false
set_option linter.all false
set_option maxRecDepth 100000
set_option maxHeartbeats 8000000
/-! LDef: a def's body with try, and the def's contract. -/
namespace LL
open PySem L2
section
variable {Fn : Type}
/-- what a suite asks of its exception -/
def chkI (c : Cc Fn) (j : Nat) : ME Fn → Expr → Bool
  | .isi (.var i) u, e => match e with
    | .Call (.Name y _) [e1, .Name z _] [] _ => decide (i = j) && c.ve j e1 && decide (y = "isinstance") && c.glob "isinstance" && (match u with
      | .ex x => c.fX x && decide (z = c.xn x) && c.glob (c.xn x)
      | .valueError => decide (z = "ValueError") && c.glob "ValueError"
      | _ => false)
    | _ => false
  | _, _ => false
def chkIs (c : Cc Fn) (j : Nat) : MEs Fn → List Expr → Bool
  | .nil, es => es.isEmpty
  | .cons m ms, es => match es with
    | e :: r => simple e && chkI c j m e && chkIs c j ms r
    | [] => false
def chkU (c : Cc Fn) (j : Nat) : MS Fn → List Stmt → Bool
  | .seq (.asg i1 (.lst es)) (.asg i2 (.bin .add (.var i3) (.lst fs))), ss => match ss with
    | [.Assign [.Name x p] (.List as q1) q, .Assign [.Name y p2] (.BinOp e3 .Add (.List bs q2) q3) q4] => c.asn i1 x && chkIs c j es as && c.asn i2 y && c.ve i3 e3 && chkIs c j fs bs
    | _ => false
  | _, _ => false
def isTry : MS Fn → Bool
  | .tryE _ _ _ => true
  | _ => false
def chkTry (c : Cc Fn) (tr : Bool) (oe : Str) : MS Fn → Stmt → Bool
  | .tryE body i su, s => match s with
    | .Try s1 [.ExceptHandler (some (.Name nc _)) (some n) (s0 :: s2) _] [] [] _ => tr && decide (nc = oe) && c.glob oe && c.asn i n && decide (c.sc.names.lookup n = some .local) && chkS body c s1 && chkU c i su (s0 :: s2)
    | _ => false
  | _, _ => false
def chkB (tr : Bool) (oe : Str) : MS Fn → Cc Fn → List Stmt → Bool
  | .seq a b, c, ss => if isFrz a then chkB tr oe b c ss else match ss with
    | s :: r => (if isTry a then chkTry c tr oe a s else !isSeq a && chkS a c [s]) && chkB tr oe b c r
    | [] => false
  | m, c, ss => chkS m c ss
/-- what is known of the error classes where a def has a try -/
structure FT (K : PySem.W.Frag) (mg : Str → Option Value) (G : SG) (oe : Str) : Prop where
  xa : G.xa = none
  ex : ∀ x, ExcC K (G.xc x)
  ke : ∀ x y, PySem.W.kitOne K (.ref (G.xc x)) (.ref (G.xc y)) = some (decide (x = y))
  kv : ∀ x, PySem.W.kitOne K (.ref (G.xc x)) (.type "ValueError") = some true
  em : ∃ a, mg oe = some (.ref a) ∧ ∀ x, PySem.W.exmOne K (.ref (G.xc x)) (.ref a) = some true
variable {Phi : Fn → LSp} {G : SG} {X : Cx} {k : Nat} {c : Cc Fn} {b : Bs} {W : WX} {e e1 e2 : Expr} {pos p1 : Pos}
theorem suite_T (T : CTx G X) {a : Addr} {pn : List (Addr × Obj)} {x : Ex} : CTx (G.with a x) (X.suite a pn) := ⟨T.kk, T.cls, T.noa, T.un, T.mgN⟩
section
variable {j : Nat} {x : Ex} {a : Addr} {oe : Obj} {pn : List (Addr × Obj)} {on : Str}
theorem FX.varS (F : FX Phi G k c X) {i : Nat} {e : Expr} (h : c.ve i e = true) : PE (X.suite a ((a, oe) :: pn)) e (tVar i) ∧ simple e = true := by
  cases e with
  | Name x p =>
    obtain ⟨h1, h2, h3, h4⟩ := F.vis (x := x) (i := i) h
    exact ⟨pe_var (X := X.suite a ((a, oe) :: pn)) h1 h2 h3 h4, rfl⟩
  | _ => cases h
theorem chkI_ok (F : FX Phi G k c X) (E : FT X.K X.mg G on) (hz : Zc (.ref (G.xc x)) none oe) (hf : ∃ vs, oe.data = .fields vs) {m : ME Fn} (h : chkI c j m e = true) : LE Phi (X.suite a ((a, oe) :: pn)) (G.with a x) b W m e := by
  unfold chkI at h
  split at h
  · split at h
    · simp only [Bool.and_eq_true, decide_eq_true_eq] at h
      obtain ⟨⟨⟨⟨rfl, h2⟩, rfl⟩, h3⟩, h4⟩ := h
      obtain ⟨v1, v2⟩ := F.varS (a := a) (oe := oe) (pn := pn) h2
      split at h4
      · simp only [Bool.and_eq_true, decide_eq_true_eq] at h4
        obtain ⟨⟨h5, rfl⟩, h6⟩ := h4
        obtain ⟨g1, g2⟩ := F.gl h6
        exact le_isiE (E.ex x) hz hf F.T (F.gl h3).1 g1 g2 (F.xx _ h5).mg (E.ke x _) v2 v1
      · simp only [Bool.and_eq_true, decide_eq_true_eq] at h4
        obtain ⟨rfl, h6⟩ := h4
        exact le_isiV (E.ex x) hz hf F.T (F.gl h3).1 (F.gl h6).1 (E.kv x) v2 v1
      · cases h4
    · cases h
  · cases h
theorem chkIs_ok (F : FX Phi G k c X) (E : FT X.K X.mg G on) (hz : Zc (.ref (G.xc x)) none oe) (hf : ∃ vs, oe.data = .fields vs) : ∀ {ms : MEs Fn} {es : List Expr}, chkIs c j ms es = true → LA Phi (X.suite a ((a, oe) :: pn)) (G.with a x) b W ms es
  | .nil, es, h => by
    cases es with
    | nil => exact la_nil
    | cons _ _ => simp [chkIs] at h
  | .cons m ms, es, h => by
    cases es with
    | nil => simp [chkIs] at h
    | cons e r =>
      simp only [chkIs, Bool.and_eq_true] at h
      exact la_cons h.1.1 (chkI_ok F E hz hf h.1.2) (chkIs_ok F E hz hf h.2)
theorem chkU_ok (F : FS Phi G k c X) (E : FT X.K X.mg G on) (hz : Zc (.ref (G.xc x)) none oe) (hf : ∃ vs, oe.data = .fields vs) {m : MS Fn} {ss : List Stmt} (h : chkU c j m ss = true) : LSs Phi (X.suite a ((a, oe) :: pn)) (G.with a x) b W m ss := by
  unfold chkU at h
  split at h
  · split at h
    · simp only [Bool.and_eq_true] at h
      obtain ⟨⟨⟨⟨h1, h2⟩, h3⟩, h4⟩, h5⟩ := h
      have s1 := F.slo h1
      have s3 := F.slo h3
      obtain ⟨v1, v2⟩ := F.toFX.varS (a := a) (oe := oe) (pn := pn) h4
      refine ls_cons (ls_asg (X := X.suite a ((a, oe) :: pn)) F.nd ⟨s1.hi, s1.loc, s1.fn⟩ (sw_none rfl) (le_lst (chkIs_ok F.toFX E hz hf h2))) (ls_one (ls_asg (X := X.suite a ((a, oe) :: pn)) F.nd ⟨s3.hi, s3.loc, s3.fn⟩ (sw_none rfl) (le_bin (o := .add) ?_ (le_lst (chkIs_ok F.toFX E hz hf h5)))))
      rename_i e3 _ _ _ _
      cases e3 with
      | Name y p =>
        obtain ⟨q1, q2, q3, q4⟩ := F.toFX.vis (show c.v _ y = true from h4)
        exact le_var (X := X.suite a ((a, oe) :: pn)) q1 q2 q3 q4
      | _ => cases h4
    · cases h
  · cases h
end
/-- at the top of a body -/
structure FB (Phi : Fn → LSp) (G : SG) (k : Nat) (c : Cc Fn) (X : Cx) : Prop extends FS Phi G k c X where
  stk : X.stack = X.env :: X.outer
  frm : X.env.frame = some X.env.locals
theorem FS.tr (F : FS Phi G k c X) {pn : List (Addr × Obj)} {xe : Value → Shared → Prop} (hp : PassesOwn (model X.prog X.w) X.A X.env xe) : FS Phi G k c (X.tr pn xe) where
  T := ⟨F.T.kk, F.T.cls, F.T.noa, F.T.un, F.T.mgN⟩
  calm := F.calm
  sc := F.sc
  N := F.N
  nd := F.nd
  room := F.room
  dm := fun f h => let ⟨n, h1, h2⟩ := F.dm f h; ⟨n, h1, ⟨h2.ex⟩⟩
  mm := fun cl f h => let ⟨n, h1, h2⟩ := F.mm cl f h; ⟨n, h1, ⟨h2.ex, h2.has, h2.nofd⟩⟩
  nw := fun cl f h => let ⟨n, h1, h2⟩ := F.nw cl f h; ⟨n, h1, ⟨h2.ex, h2.has⟩⟩
  xx := fun x h => let h2 := F.xx x h; ⟨h2.ex, h2.mg, h2.kp, h2.r⟩
  fnT := F.fnT
  psd := hp
  knd := F.knd
theorem chkTry_ok {tr : Bool} {on : Str} (F : FB Phi G k c X) (E : tr = true → FT X.K X.mg G on) (tk : Takes X W) {m : MS Fn} {s : Stmt} (h : chkTry c tr on m s = true) : LS0 Phi X G b W m s := by
  unfold chkTry at h
  split at h
  · split at h
    · simp only [Bool.and_eq_true, decide_eq_true_eq] at h
      obtain ⟨⟨⟨⟨⟨⟨h1, rfl⟩, h2⟩, h3⟩, h4⟩, h5⟩, h6⟩ := h
      have E := E h1
      obtain ⟨a, e1, e2⟩ := E.em
      obtain ⟨g1, g2⟩ := F.toFX.gl h2
      exact ls_try E.xa F.stk F.frm F.nd (F.toFS.slo h3) (by show X.env.scope.names.lookup _ = _; rw [F.sc]; exact h4) ⟨g1, g2, .inl e1⟩ tk e2
        (fun W' pn xe tk' hp => (chkS_ok _ _ _ h5 _ k (F.toFS.tr hp) b W' tk').1) fun x a oe pn hz hf => chkU_ok F.toFS E hz hf h6
    · cases h
  · cases h
theorem ls0_frz {i : Nat} {m : MS Fn} {ss : List Stmt} (h2 : LSs0 Phi X G b W m ss) : LSs0 Phi X G b W (.seq (.frz i) m) ss := PSs.imp h2 fun D σ H ⟨g, env, w, K, S, q, ok⟩ => by
  simp only [les] at q
  obtain ⟨pc, he, q⟩ := onSlot_some q
  cases pc with
  | lst ds =>
    obtain ⟨g', k, S'⟩ := S.freeze he
    exact ⟨g', _, w, K, S', q, ok.keep k⟩
  | _ => exact q.elim
theorem chkB_ok {tr : Bool} {on : Str} : ∀ (m : MS Fn) (c : Cc Fn) (ss : List Stmt), chkB tr on m c ss = true → ∀ X k, FB Phi G k c X → (tr = true → FT X.K X.mg G on) → ∀ b W, Takes X W → LSs0 Phi X G b W m ss
  | .seq a d => fun c ss h X k F E b W tk => by
    unfold chkB at h
    split at h
    · rename_i hf
      cases a with
      | frz i => exact ls0_frz (chkB_ok d _ _ h X k F E b W tk)
      | _ => cases hf
    · split at h
      · simp only [Bool.and_eq_true] at h
        obtain ⟨h1, h2⟩ := h
        refine ls0_cons ?_ (chkB_ok d _ _ h2 X k F E b W tk)
        split at h1
        · exact chkTry_ok F E tk h1
        · simp only [Bool.and_eq_true, Bool.not_eq_true'] at h1
          exact ls0_of ((chkS_ok a _ _ h1.2 X k F.toFS b W tk).2 h1.1 _ rfl)
      · cases h
  | .skip => fun c ss h X k F E b W tk => lss0_of (chkS_ok _ _ _ h X k F.toFS b W tk).1
  | .frz i => fun c ss h X k F E b W tk => lss0_of (chkS_ok _ _ _ h X k F.toFS b W tk).1
  | .asg i m => fun c ss h X k F E b W tk => lss0_of (chkS_ok _ _ _ h X k F.toFS b W tk).1
  | .asgL i m => fun c ss h X k F E b W tk => lss0_of (chkS_ok _ _ _ h X k F.toFS b W tk).1
  | .asgD i => fun c ss h X k F E b W tk => lss0_of (chkS_ok _ _ _ h X k F.toFS b W tk).1
  | .asgM i d j n => fun c ss h X k F E b W tk => lss0_of (chkS_ok _ _ _ h X k F.toFS b W tk).1
  | .setIx i kx m => fun c ss h X k F E b W tk => lss0_of (chkS_ok _ _ _ h X k F.toFS b W tk).1
  | .setIx2 i kx l m => fun c ss h X k F E b W tk => lss0_of (chkS_ok _ _ _ h X k F.toFS b W tk).1
  | .setAt o f m => fun c ss h X k F E b W tk => lss0_of (chkS_ok _ _ _ h X k F.toFS b W tk).1
  | .setAtL o f m => fun c ss h X k F E b W tk => lss0_of (chkS_ok _ _ _ h X k F.toFS b W tk).1
  | .setAtD o f => fun c ss h X k F E b W tk => lss0_of (chkS_ok _ _ _ h X k F.toFS b W tk).1
  | .setAtM o f d j n => fun c ss h X k F E b W tk => lss0_of (chkS_ok _ _ _ h X k F.toFS b W tk).1
  | .setFIx o f kx m => fun c ss h X k F E b W tk => lss0_of (chkS_ok _ _ _ h X k F.toFS b W tk).1
  | .setFIx2 o f kx l m => fun c ss h X k F E b W tk => lss0_of (chkS_ok _ _ _ h X k F.toFS b W tk).1
  | .expr m => fun c ss h X k F E b W tk => lss0_of (chkS_ok _ _ _ h X k F.toFS b W tk).1
  | .app i m => fun c ss h X k F E b W tk => lss0_of (chkS_ok _ _ _ h X k F.toFS b W tk).1
  | .rev i => fun c ss h X k F E b W tk => lss0_of (chkS_ok _ _ _ h X k F.toFS b W tk).1
  | .clr i => fun c ss h X k F E b W tk => lss0_of (chkS_ok _ _ _ h X k F.toFS b W tk).1
  | .appT a m => fun c ss h X k F E b W tk => lss0_of (chkS_ok _ _ _ h X k F.toFS b W tk).1
  | .clrT a => fun c ss h X k F E b W tk => lss0_of (chkS_ok _ _ _ h X k F.toFS b W tk).1
  | .ifS m a d => fun c ss h X k F E b W tk => lss0_of (chkS_ok _ _ _ h X k F.toFS b W tk).1
  | .forR i lo hi body => fun c ss h X k F E b W tk => lss0_of (chkS_ok _ _ _ h X k F.toFS b W tk).1
  | .forD i hi body => fun c ss h X k F E b W tk => lss0_of (chkS_ok _ _ _ h X k F.toFS b W tk).1
  | .forL i m body => fun c ss h X k F E b W tk => lss0_of (chkS_ok _ _ _ h X k F.toFS b W tk).1
  | .forT i m body => fun c ss h X k F E b W tk => lss0_of (chkS_ok _ _ _ h X k F.toFS b W tk).1
  | .whileT body => fun c ss h X k F E b W tk => lss0_of (chkS_ok _ _ _ h X k F.toFS b W tk).1
  | .ret m => fun c ss h X k F E b W tk => lss0_of (chkS_ok _ _ _ h X k F.toFS b W tk).1
  | .retN => fun c ss h X k F E b W tk => lss0_of (chkS_ok _ _ _ h X k F.toFS b W tk).1
  | .raise x => fun c ss h X k F E b W tk => lss0_of (chkS_ok _ _ _ h X k F.toFS b W tk).1
  | .tryE _ _ _ => fun c ss h X k F E b W tk => lss0_of (chkS_ok _ _ _ h X k F.toFS b W tk).1
end
end LL
end
section
set_option Elab.async false
set_option linter.all false
set_option maxRecDepth 100000
set_option maxHeartbeats 8000000
/-! LDef2: a def of the program keeps its contract. -/
namespace LL
open PySem L2
/-- how a def is reached: by its name, as a method, as a class's maker -/
inductive Kd where
  | d | m (c : Cl) | n (c : Cl)
  deriving DecidableEq
structure Nms where
  nm : Nat → Str
  cn : Cl → Str
  xn : Ex → Str
  fX : Ex → Bool
def ccOf (M : Nms) (L : List (Kd × Nat)) (N : List Str) (sc : Scope) : Cc Nat where
  N := N
  sc := sc
  nm := M.nm
  cn := M.cn
  xn := M.xn
  fD := fun f => decide ((Kd.d, f) ∈ L)
  fM := fun c f => decide ((Kd.m c, f) ∈ L)
  fN := fun c f => decide ((Kd.n c, f) ∈ L)
  fX := M.fX
  nofd := fun _ => true
section
variable (Phi : Nat → LSp) (P : Program) (w : World) (K : PySem.W.Frag) (mg : Str → Option Value) (base : Heap) (G : SG) (M : Nms)
def EOk (k : Nat) : Kd × Nat → Prop
  | (.d, f) => ∃ a fd ps, FnOk P w K mg base (L2.CX P w) k a fd ps (liftSp G (Phi f)) ∧ Binds K fd ps [] ∧ PySem.W.keepIn K (.ref a) = true ∧ mg (M.nm f) = some (.ref a)
  | (.m c, f) => (∃ a fd ps, FnOk P w K mg base (L2.CX P w) k a fd ps (liftSp G (Phi f)) ∧ Binds K fd ps [] ∧ Meth K (G.ca c) (M.nm f) a) ∧ G.hc c = true ∧ ∀ x : Fd, fdS x ≠ M.nm f
  | (.n c, f) => (∃ a fd ps, FnOk P w K mg base (L2.CX P w) k a fd ps (liftSp G (Phi f)) ∧ Binds K fd ps [] ∧ Mk K (G.ca c) a ∧ mg (M.cn c) = some (.ref (G.ca c))) ∧ G.hc c = true
/-- all of a list, within a depth -/
def LAll (k : Nat) (L : List (Kd × Nat)) : Prop := ∀ e ∈ L, ∃ n, n + 1 ≤ k ∧ EOk Phi P w K mg base G M n e
structure BFa : Prop where
  kk : G.K = K
  cls : ∀ c, G.hc c = true → Cls K (G.ca c)
  noa : ∀ c f, G.hc c = true → NoAttr K (G.ca c) (fdS f)
  mgN : ∀ x : Str, x ∈ ([("len" : Str), "sorted", "list", "min", "max", "int", "isinstance", "range", "bool", "tuple", "str", "ValueError"] : List Str) → mg x = none
  xx : ∀ x, M.fX x = true → (∃ bmB B newId initId, PySem.ExcBaseFacts B newId initId bmB ∧ PySem.W.excIn K (G.xc x) bmB newId = true) ∧ mg (M.xn x) = some (.ref (G.xc x)) ∧ PySem.W.keepIn K (.ref (G.xc x)) = true ∧
    PySem.W.subIn K (.ref (G.xc x)) (.type "BaseException") = some true ∧ PySem.W.typeIn K (.ref (G.xc x)) = some (.type "type")
end
section
variable {Phi : Nat → LSp} {P : Program} {w : World} {K : PySem.W.Frag} {mg : Str → Option Value} {base : Heap} {G : SG} {M : Nms}
theorem LAll.nil {k : Nat} : LAll Phi P w K mg base G M k [] := fun _ m => nomatch m
theorem LAll.cons {k n : Nat} {e : Kd × Nat} {L : List (Kd × Nat)} (h : EOk Phi P w K mg base G M n e) (hn : n + 1 ≤ k) (t : LAll Phi P w K mg base G M k L) : LAll Phi P w K mg base G M k (e :: L) := fun e' m => by
  rcases List.mem_cons.mp m with rfl | m
  · exact ⟨n, hn, h⟩
  · exact t e' m
theorem LAll.mono {k k' : Nat} {L : List (Kd × Nat)} (h : LAll Phi P w K mg base G M k L) (hk : k ≤ k') : LAll Phi P w K mg base G M k' L := fun e m => let ⟨n, h1, h2⟩ := h e m; ⟨n, Nat.le_trans h1 hk, h2⟩
def scopeOk (N ps : List Str) (sc : Scope) : Bool :=
  (match sc.kind with | .function => true | _ => false) && !sc.isCoroutine && !sc.isGenerator && decide N.Nodup && decide (N.take ps.length = ps) && (ps.all fun x => decide (sc.names.lookup x = some .local) || decide (sc.names.lookup x = some .cell)) && (sc.names.all fun y => decide (y.2 ≠ .free))
theorem scopeOk_of {N ps : List Str} {sc : Scope} (h : scopeOk N ps sc = true) : FnScope N ps sc := by
  simp only [scopeOk, Bool.and_eq_true, List.all_eq_true, decide_eq_true_eq, Bool.or_eq_true, Bool.not_eq_true'] at h
  obtain ⟨⟨⟨⟨⟨⟨h1, h2⟩, h3⟩, h4⟩, h5⟩, h6⟩, h7⟩ := h
  refine ⟨?_, h2, h3, h4, h5, h6, h7⟩
  split at h1
  · assumption
  · cases h1
theorem plc_par {ds : List D} {n : Nat} {w : Wd} {x : Pl} {p : PV} (h : plc (parEnv ds n) [] w x = some p) : plc (parOf ds) [] w x = some p := by
  cases x with
  | tm i => exact h
  | fd q f => exact h
  | sl i =>
    obtain ⟨pc, rfl, he⟩ := plc_sl_some h
    refine plc_sl ?_
    unfold parEnv at he
    by_cases hi : i < ds.length
    · rw [List.getElem?_append_left (by simpa using hi)] at he
      exact he
    · rw [List.getElem?_append_right (by simpa using hi), List.getElem?_replicate] at he
      split at he <;> cases he
theorem end_sim {b : Bs} {g' : Gh} {r : R} {env : Env} {w' w2 : Wd} {σ : St} {H' : Hp} (S : Sim G b g' [r] env w' σ H') (hle : Wd.le w2 w') (hy : r.yy = true) : Sim G b g' [fr r.d] [] w2 [] H' := by
  have S1 : Sim G b g' [r] [] w2 [] H' := (S.forget hle).weak (env' := []) (σ' := []) (fun x p e => by
    cases x with
    | sl i => simp [plc] at e
    | tm i => exact e
    | fd q f => exact e) (fun i x e => by simp at e) (fun _ _ e => e) rfl
  have ren : ∀ {x p}, plc [] [fr r.d] w2 x = some p → (x = .tm 0 ∧ p = .rr (fr r.d)) ∨ (∃ q f, x = .fd q f ∧ plc [] [r] w2 x = some p) := fun {x p} e => by
    cases x with
    | sl i => simp [plc] at e
    | fd q f => exact .inr ⟨q, f, rfl, e⟩
    | tm i =>
      cases i with
      | zero => exact .inl ⟨rfl, (Option.some.inj e).symm⟩
      | succ i => simp [plc] at e
  have t0 : plc [] [r] w2 (.tm 0) = some (.rr r) := rfl
  refine ⟨fun x p e => ?_, S1.sig, fun x y p q e1 e2 own ap a m => ?_, S1.ins, fun x p n e yy a m => ?_, fun q f p e => S1.yf q f p e, S1.yo, S1.fr, S1.gr, S1.len, fun x p n e a m => ?_, fun x p q f pq n e yy e2 a m => ?_⟩
  · rcases ren e with ⟨rfl, rfl⟩ | ⟨q, f, rfl, e'⟩
    · exact S1.rep (.tm 0) (.rr r) t0
    · exact S1.rep _ _ e'
  · rcases ren e1 with ⟨rfl, rfl⟩ | ⟨q1, f1, rfl, e1'⟩
    · rcases ren e2 with ⟨rfl, rfl⟩ | ⟨q2, f2, rfl, e2'⟩
      · exact absurd rfl ap.1
      · exact S1.fy (.tm 0) _ q2 f2 q (by intro _ _ z; cases z) t0 hy e2' a m
    · rcases ren e2 with ⟨rfl, rfl⟩ | ⟨q2, f2, rfl, e2'⟩
      · intro m2
        exact S1.fy (.tm 0) _ q1 f1 p (by intro _ _ z; cases z) t0 hy e1' a m2 m
      · exact S1.dj _ _ p q e1' e2' own ⟨ap.1, fun ⟨_, _, _, z, _⟩ => by cases z⟩ a m
  · rcases ren e with ⟨rfl, rfl⟩ | ⟨q, f, rfl, e'⟩
    · exact S1.yg (.tm 0) _ (by intro _ _ z; cases z) t0 hy a m
    · exact absurd rfl (n q f)
  · rcases ren e with ⟨rfl, rfl⟩ | ⟨q, f, rfl, e'⟩
    · exact S1.yp (.tm 0) _ (by intro _ _ z; cases z) t0 a m
    · exact absurd rfl (n q f)
  · rcases ren e with ⟨rfl, rfl⟩ | ⟨q2, f2, rfl, e'⟩
    · exact S1.fy (.tm 0) _ q f pq (by intro _ _ z; cases z) t0 hy e2 a m
    · exact absurd rfl (n q2 f2)
theorem def_ok {L : List (Kd × Nat)} {k f0 : Nat} {tr : Bool} {on x qual : Str} {st : Stmt} {f : Addr} {fd : FuncData} {N ps : List Str} {m : MS Nat} (B : BFa K mg G M) (hL : LAll Phi P w K mg base G M k L) (hk0 : 1 ≤ k) (hT : tr = true → FT K mg G on)
    (F : Fun K x qual st f fd) (hS : scopeOk N ps (defScope st) = true) (hk : chkB tr on m (ccOf M L N (defScope st)) (defBody st) = true) (hm : LOk Phi m ps.length (N.length - ps.length) (Phi f0)) :
    FnOk P w K mg base (L2.CX P w) (k + 1) f fd ps (liftSp G (Phi f0)) := by
  have S := scopeOk_of hS
  refine F.okX S (fun vs H Q E h => ?_) fun cdv A outer s H vs Q E hr hsp => ?_
  · obtain ⟨ds, w, g, Q0, E0, _, hl, q, _⟩ := h
    rw [hl]; exact (hm _ _ _ _ q).1
  · obtain ⟨ds, w0, g, Q0, E0, Si, hl, q, hq, hx⟩ := hsp
    obtain ⟨hd, hles⟩ := hm _ _ _ _ q
    refine ⟨tS0 G (bs0 H g w0) (fun cls d _ H => E cls d H) (les Phi m), ?_, ?_⟩
    · refine chkB_ok m _ _ hk _ k ⟨⟨⟨⟨B.kk, B.cls, B.noa, (by have := (hr.mono hk0).un; show (A.deeper (PyProof.Rows.envOfC qual (defScope st) s.heap.objs.size f cdv)).units + 65 < cLine; omega), B.mgN⟩, rfl, rfl, rfl, S.nd, hr, fun f' h => ?_, fun cl f' h => ?_, fun cl f' h => ?_, fun x h => ?_⟩, fun _ => rfl, passes_of rfl, S.kind⟩, rfl, rfl⟩ hT _ _ (takes_of rfl rfl rfl rfl)
      · obtain ⟨n, h1, h2⟩ := hL _ (of_decide_eq_true h)
        exact ⟨n, by omega, ⟨h2⟩⟩
      · obtain ⟨n, h1, h2, h3, h4⟩ := hL _ (of_decide_eq_true h)
        exact ⟨n, by omega, ⟨h2, h3, h4⟩⟩
      · obtain ⟨n, h1, h2, h3⟩ := hL _ (of_decide_eq_true h)
        exact ⟨n, h1, ⟨h2, h3⟩⟩
      · obtain ⟨h1, h2, h3, h4, h5⟩ := B.xx x h
        exact ⟨h1, h2, h3, raises_own h4 h5⟩
    · have hN : ps.length ≤ N.length := by have := congrArg List.length S.pre; rw [List.length_take] at this; omega
      refine ⟨g, parEnv ds (N.length - ps.length), w0, defEnds Q0 E0, Si.weak (fun x p e => plc_par e) (fun i x e => ?_) (fun _ _ e => e) ?_, hles, ⟨fun {g' env' w' σ' H'} q S' k => ?_, fun {g' r env' w' σ' H'} q S' => ?_, fun {x g' env' w' σ' H'} q S' => ?_⟩⟩
      · have e' : plc (parEnv ds (N.length - ps.length)) [] w0 (.sl i) = some (.pc x) := plc_sl e
        obtain ⟨pc, e2, he⟩ := plc_sl_some (plc_par e')
        have := Si.sig i pc he
        have hi : i < (vs.map some).length := (List.getElem?_eq_some_iff.mp this).1
        unfold L2.start
        rw [List.getElem?_append_left hi]
        exact this
      · unfold L2.start parEnv
        simp [hl, hd]
      · obtain ⟨w2, hle, q⟩ := q
        have S0 : Sim G (bs0 H g w0) g' ([] ++ []) env' w' σ' H' := S'
        have S1 := S0.push (r := sc .non) (v := .non) (F := []) .non fun _ m => nomatch m
        have := hq _ w2 _ H' q (end_sim S1 hle rfl)
        rw [show (Pl.tm 0) = Pl.tm ([] : List R).length from rfl, Gh.put_v] at this
        exact this
      · obtain ⟨hy, w2, hle, q⟩ := q
        exact hq _ w2 _ H' q (end_sim S' hle hy)
      · obtain ⟨w2, hle, q⟩ := q
        exact hx _ w2 _ H' q ((S'.forget hle).weak (env' := []) (σ' := []) (fun x p e => by
          cases x with
          | sl i => simp [plc] at e
          | tm i => exact e
          | fd q f => exact e) (fun i x e => by simp at e) (fun _ _ e => e) rfl)
end
end LL
end
section
set_option Elab.async false
set_option linter.all false
set_option maxRecDepth 100000
/-! LWalk: from the law's contract to the statement. -/
namespace LL
open PySem L2 PySem.Spec PyProof.Rows
theorem scr_of {G : SG} {H : Hp} {a : Addr} {ns : List Int} (h : SqL G.K H a (ns.map V.int)) : ∃ F, FRep G H (.ref a) (.scr ns) F := by
  rcases h with (h | ⟨o, h⟩) | h
  · exact ⟨_, .scr' h⟩
  · exact ⟨_, .scr (.inl ⟨o, h⟩)⟩
  · exact ⟨_, .scr (.inr h)⟩
theorem first_sim {G : SG} {H : Hp} {a : Addr} {ns : List Int} (h : SqL G.K H a (ns.map V.int)) : ∃ g, Sim G (bs0 H g fun _ => none) g [] (parOf [.scr ns]) (fun _ => none) ([V.ref a].map some) H := by
  obtain ⟨F, hF⟩ := scr_of h
  have pl : ∀ {x p}, plc (parOf [.scr ns]) [] (fun _ => none) x = some p → x = .sl 0 ∧ p = .pc (.val (.scr ns) false) := fun {x p} e => by
    cases x with
    | tm i => simp [plc] at e
    | fd q f => simp [plc] at e
    | sl i =>
      cases i with
      | zero => exact ⟨rfl, (Option.some.inj e).symm⟩
      | succ i => simp [plc, parOf] at e
  refine ⟨⟨fun _ => .ref a, fun _ => F⟩, fun x p e => ?_, fun i x e => ?_, fun x y p q e1 e2 own ap => ?_, (fun p o e => by cases e), fun x p n e yy => ?_, (fun q f p e => by simp [plc] at e), fun p o e => (by cases e), fun a o e _ => e, fun a e => e, rfl, fun x p n e a m => .inr (.inl trivial), (fun x p q f pq n e yy e2 => by simp [plc] at e2)⟩
  · obtain ⟨rfl, rfl⟩ := pl e
    exact hF
  · cases i with
    | zero => rfl
    | succ i => simp [parOf] at e
  · obtain ⟨rfl, rfl⟩ := pl e1
    cases own
  · obtain ⟨rfl, rfl⟩ := pl e
    cases yy
theorem kit_own {K : PySem.W.Frag} {A C : Addr} {v : Bool} (hd : PySem.W.hasDictIn K C = true) (ht : PySem.W.typeIn K (.ref C) = some (.type "type")) (h1 : PySem.W.subIn K (.ref A) (.ref C) = some v) (h2 : PySem.W.subIn K (.ref C) (.ref C) = some true) : PySem.W.kitOne K (.ref A) (.ref C) = some v := by
  obtain ⟨cd, hc, _⟩ := PySem.W.any_some hd
  unfold PySem.W.kitOne
  by_cases e : A = C
  · subst e
    rw [if_pos (by simp)]
    rw [h1] at h2
    exact h2.symm
  · rw [if_neg (by simpa using e)]
    show (if ((PySem.W.clsIn K C).isSome && PySem.W.typeIn K (.ref C) == some (.type "type")) = true then PySem.W.subIn K (.ref A) (.ref C) else none) = some v
    have e2 : ((PySem.W.clsIn K C).isSome && PySem.W.typeIn K (.ref C) == some (.type "type")) = true := by rw [hc, ht] <;> rfl
    rw [if_pos e2, h1]
theorem kit_val {K : PySem.W.Frag} {A : Addr} (h1 : PySem.W.subIn K (.ref A) (.type "ValueError") = some true) : PySem.W.kitOne K (.ref A) (.type "ValueError") = some true := by
  unfold PySem.W.kitOne
  rw [if_neg (by simp)]
  show (if PySem.W.kitMeta "ValueError" = true then PySem.W.subIn K (.ref A) (.type "ValueError") else none) = some true
  rw [if_pos (by decide +kernel), h1]
def spL (K : PySem.W.Frag) : Sp := fun vs H Q _ => ∃ (a : Addr) (ns : List Int), vs = [.ref a] ∧ SqL K H a (ns.map V.int) ∧ ns.length ≤ 63 ∧ ∀ H', Q (.bl true) H'
theorem law_weak {P : Program} {w : World} {K : PySem.W.Frag} {mg : Str → Option Value} {base : Heap} {k : Nat} {fa : Addr} {fd : FuncData} {G0 : SG} {S : LSp} (hK : G0.K = K)
    (hS : ∀ ns : List Int, ns.length ≤ 63 → S [.scr ns] (fun _ => none) (fun d _ => d = .bl true) fun _ _ => False) (h : FnOk P w K mg base (L2.CX P w) k fa fd ["script"] (liftSp G0 S)) : FnOk P w K mg base (L2.CX P w) k fa fd ["script"] (spL K) := by
  have to : ∀ {vs H Q E}, spL K vs H Q E → liftSp G0 S vs H Q E := fun {vs H Q E} hh => by
    obtain ⟨a, ns, rfl, hs, hl, hq⟩ := hh
    rw [← hK] at hs
    obtain ⟨g, S0⟩ := first_sim hs
    refine ⟨[.scr ns], fun _ => none, g, _, _, S0, rfl, hS ns hl, fun d w' g' H' q S' => ?_, fun x w' g' H' q S' => q.elim⟩
    subst q
    have := S'.rep (.tm 0) (.rr (fr (.bl true))) rfl
    have : FRep G0 H' (g'.v (.tm 0)) (.bl true) _ := this
    rw [this.bl_of]
    exact hq H'
  exact ⟨fun vs H Q E hh => h.len _ _ _ _ (to hh), fun A outer s H args us vs Q E hr e0 hb r hsp => h.run A outer s H args us vs Q E hr e0 hb r (to hsp)⟩
theorem walkL {l : PySem.W.OpenLaw} {q : Program} {loose : List Str} {XP : (Str → Option Value) → Heap → Prop} {YP : World → Heap → Prop} {d : DefRec} {K : Params → PySem.W.Frag} {S : LSp} {k : Nat} (hn : l.most = some 63) (hdf : d.params.defaults = []) (hr : Room k callerA)
    (hY : ∀ (w : World) (h : Heap), YP w h → (K w.params).In h) (hS : ∀ ns : List Int, ns.length ≤ 63 → S [.scr ns] (fun _ => none) (fun d _ => d = .bl true) fun _ _ => False)
    (F : ∀ (w : World) (mg : Str → Option Value) (fa : Addr) (h : Heap), (K w.params).In h → h.Ns mainGlobals mg → mg d.name = some (.ref fa) →
      ∃ fd : FuncData, (∀ (s : Shared) (u : Value), BindsTo s fd ⟨[u], []⟩ [("script", u)]) ∧ ∃ G0 : SG, G0.K = K w.params ∧ ∀ base : Heap, (K w.params).In base → base.Ns mainGlobals mg → FnOk l.prog w (K w.params) mg base (L2.CX l.prog w) k fa fd ["script"] (liftSp G0 S)) :
    PySem.W.WalkO q loose XP YP l.row.toRowW d [] (fun f vs => PySem.call f vs) :=
  L2.walk_of (n := 63) (k := k) (x := "script") (CX := fun w => L2.CX l.prog w) (sp := fun w => spL (K w.params)) hn (by decide) hdf hr hY
    (fun w mg fa h X G hm => let ⟨fd, h1, G0, h2, h3⟩ := F w mg fa h X G hm; ⟨fd, h1, fun base b1 b2 => law_weak h2 hS (h3 base b1 b2)⟩) (fun _ _ a ns hl _ hs => ⟨a, ns, rfl, hs, hl, fun _ => rfl⟩) fun w H s e s' z => by
      obtain ⟨_, _, _, _, _, _, _, _, _, _, _, _, z⟩ := z
      exact z.elim
end LL
end
section
set_option linter.all false
/-! LMap: what the map's defs do. -/
namespace LL
abbrev Mx := List (List Bool)
def rowsD (M : Mx) : List (List D) := M.map (·.map D.bl)
def mapOb (n : Int) (M : Mx) : Ob := ⟨.map, [(.size, .val (.int n) true), (.rows, .mat (rowsD M))]⟩
def rowM (M : Mx) (a : Int) : List Bool := M.getD a.toNat []
def adj (M : Mx) (a b : Int) : Bool := (rowM M a).getD b.toNat false
def putM (M : Mx) (a b : Int) : Mx := M.set a.toNat ((rowM M a).set b.toNat true)
def lnk (M : Mx) (a b : Int) : Mx := putM (putM M a b) b a
structure Wf (n : Int) (M : Mx) : Prop where
  n0 : 0 ≤ n
  n1 : n ≤ 1000
  len : M.length = n.toNat
  row : ∀ r ∈ M, r.length = n.toNat
def emptyM (n : Int) : Mx := List.replicate n.toNat (List.replicate n.toNat false)
def nearL (n : Int) (M : Mx) (a : Int) : List Int := ((List.range n.toNat).filter fun b : Nat => adj M a (b : Int)).map fun b : Nat => (b : Int)
def inr (n a : Int) : Bool := decide (0 ≤ a) && decide (a < n)
theorem inr_iff {n a : Int} : inr n a = true ↔ 0 ≤ a ∧ a < n := by simp [inr]
theorem inr_no {n a : Int} : inr n a = false ↔ ¬ (0 ≤ a ∧ a < n) := by
  rw [← inr_iff]; simp
theorem Wf.empty {n : Int} (h0 : 0 ≤ n) (h1 : n ≤ 1000) : Wf n (emptyM n) := ⟨h0, h1, by simp [emptyM], fun r m => by rw [List.eq_of_mem_replicate m]; simp⟩
theorem rowsD_empty {n : Int} : rowsD (emptyM n) = square n (.bl false) := by simp [rowsD, emptyM, square]
theorem getD_mem {M : Mx} {i : Nat} (h : i < M.length) : M.getD i [] ∈ M := by
  rw [List.getD_eq_getElem?_getD, List.getElem?_eq_getElem h]
  exact List.getElem_mem h
theorem Wf.rowLen {n : Int} {M : Mx} (h : Wf n M) {a : Int} (i : inr n a = true) : (rowM M a).length = n.toNat := by
  obtain ⟨a0, a1⟩ := inr_iff.mp i
  exact h.row _ (getD_mem (by rw [h.len]; omega))
theorem Wf.put {n : Int} {M : Mx} (h : Wf n M) {a b : Int} (i : inr n a = true) : Wf n (putM M a b) := by
  refine ⟨h.n0, h.n1, by simp [putM, h.len], fun r m => ?_⟩
  rcases List.mem_or_eq_of_mem_set m with m | e
  · exact h.row r m
  · rw [e, List.length_set]; exact h.rowLen i
theorem Wf.lnk {n : Int} {M : Mx} (h : Wf n M) {a b : Int} (i : inr n a = true) (j : inr n b = true) : Wf n (lnk M a b) := (h.put i).put j
theorem at0_of {α : Type} {xs : List α} {k : Int} (h0 : 0 ≤ k) : at0 xs k = xs[k.toNat]? := if_pos h0
theorem Wf.at {n : Int} {M : Mx} (h : Wf n M) {a : Int} (i : inr n a = true) : at0 (rowsD M) a = some ((rowM M a).map D.bl) := by
  obtain ⟨a0, a1⟩ := inr_iff.mp i
  have hl : a.toNat < M.length := by rw [h.len]; omega
  rw [at0_of a0, rowsD, rowM, List.getElem?_map, List.getD_eq_getElem?_getD, List.getElem?_eq_getElem hl]; rfl
theorem Wf.at2 {n : Int} {M : Mx} (h : Wf n M) {a b : Int} (i : inr n a = true) (j : inr n b = true) : at0 ((rowM M a).map D.bl) b = some (.bl (adj M a b)) := by
  obtain ⟨b0, b1⟩ := inr_iff.mp j
  have hl : b.toNat < (rowM M a).length := by rw [h.rowLen i]; omega
  rw [at0_of b0, List.getElem?_map, adj, List.getD_eq_getElem?_getD (l := rowM M a), List.getElem?_eq_getElem hl]; rfl
theorem rows_put {M : Mx} {a b : Int} : (rowsD M).set a.toNat (((rowM M a).map D.bl).set b.toNat (.bl true)) = rowsD (putM M a b) := by
  simp [rowsD, putM, List.map_set]

def S_minit : LSp := fun ds w Q E => ∃ p n, ds = [.obj p, .int n] ∧ w p = some ⟨.map, []⟩ ∧ 0 ≤ n ∧ n ≤ 1000 ∧ Q .non (w.put p (mapOb n (emptyM n)))
def S_known : LSp := fun ds w Q E => ∃ p a n M, ds = [.obj p, .int a] ∧ w p = some (mapOb n M) ∧ (inr n a = true → Q .non w) ∧ (inr n a = false → E .noPlace w)
def S_link : LSp := fun ds w Q E => ∃ p a b n M, ds = [.obj p, .int a, .int b] ∧ w p = some (mapOb n M) ∧ Wf n M ∧ (inr n a = false ∨ inr n b = false → E .noPlace w) ∧
  (inr n a = true → inr n b = true → a = b → E .outOfReach w) ∧ (inr n a = true → inr n b = true → a ≠ b → Q .non (w.put p (mapOb n (lnk M a b))))
def S_beside : LSp := fun ds w Q E => ∃ p a b n M, ds = [.obj p, .int a, .int b] ∧ w p = some (mapOb n M) ∧ Wf n M ∧ (inr n a = false ∨ inr n b = false → E .noPlace w) ∧
  (inr n a = true → inr n b = true → Q (.bl (adj M a b)) w)
def S_near : LSp := fun ds w Q E => ∃ p a n M, ds = [.obj p, .int a] ∧ w p = some (mapOb n M) ∧ Wf n M ∧ (inr n a = false → E .noPlace w) ∧ (inr n a = true → Q (.lst ((nearL n M a).map D.int)) w)
theorem fm_eq (f : Nat → Bool) : ∀ l : List Nat, (l.filterMap fun b : Nat => if f b = true then some (D.int (b : Int)) else none) = ((l.filter f).map fun b : Nat => (b : Int)).map D.int
  | [] => rfl
  | x :: xs => by
    rw [List.filterMap_cons, List.filter_cons]
    cases h : f x with
    | true => simp [fm_eq f xs]
    | false => simp [fm_eq f xs]
theorem ok_0 (Phi : Nat → LSp) : LOk Phi b_0 2 1 S_minit := by
  rintro ds w Q E ⟨p, n, rfl, hw, h0, h1, q⟩
  refine ⟨rfl, ?_⟩
  simp [b_0, lev, levs, xSome, xInt, xBl, xLst, xTup, xScr, xDic, xObj, xVal, xPLst, xPMat, xPDic, xSlot, xSlotI, xFld, xOb, xNewFld, xR1, xR2, xR3, xR4, xK1, xK2, xN1, xN2, xN3, xN4, xN5, xN6, xT1, xT2, xC1, xC2, xC3, xC4, xC5, xC6, xC7, xC8, xC9, xC10, xB1, xB2, xB3, xB4, xB5, xB6, xB7, xI1, xI2, xI3, xL1, xL2, xL3, xL4, xL5, xL6, xSc, xFr, xZZ, xYY, xPar, sq_rt, sq_ex, sq_xk, nx_xk, xXk, sSkip, sSeq, sFrz, sAsg, sAsgL, sAsgD, sAsgM, sSetIx, sSetIx2, sSetAt, sSetAtL, sSetAtD, sSetAtM, sSetF, sSetF2, sExpr, sApp, sRev, sClr, sAppT, sClrT, sIf, sRet, sRetN, sRaise, D.nc, D.ncs, Wd.put_same, Wd.put_put, gS0, gS1, aA0, aA1, aA2, xS1, xS2, xS3, xS4, xS5, xS6, xS7, hw, fget, fput]
  rw [sq_nx]
  simp [lev, levs, xSome, xInt, xBl, xLst, xTup, xScr, xDic, xObj, xVal, xPLst, xPMat, xPDic, xSlot, xSlotI, xFld, xOb, xNewFld, xR1, xR2, xR3, xR4, xK1, xK2, xN1, xN2, xN3, xN4, xN5, xN6, xT1, xT2, xC1, xC2, xC3, xC4, xC5, xC6, xC7, xC8, xC9, xC10, xB1, xB2, xB3, xB4, xB5, xB6, xB7, xI1, xI2, xI3, xL1, xL2, xL3, xL4, xL5, xL6, xSc, xFr, xZZ, xYY, xPar, sq_rt, sq_ex, sq_xk, nx_xk, xXk, sSkip, sSeq, sFrz, sAsg, sAsgL, sAsgD, sAsgM, sSetIx, sSetIx2, sSetAt, sSetAtL, sSetAtD, sSetAtM, sSetF, sSetF2, sExpr, sApp, sRev, sClr, sAppT, sClrT, sIf, sRet, sRetN, sRaise, D.nc, D.ncs, Wd.put_same, Wd.put_put, gS0, gS1, aA0, aA1, aA2, xS1, xS2, xS3, xS4, xS5, xS6, xS7, freeSlot, h0, h1, fget, fput]
  exact dnx (by rw [mapOb, rowsD_empty] at q; exact q)
theorem ok_1 (Phi : Nat → LSp) : LOk Phi b_1 2 0 S_known := by
  rintro ds w Q E ⟨p, a, n, M, rfl, hw, q1, q2⟩
  refine ⟨rfl, ?_⟩
  simp [b_1, lev, levs, xSome, xInt, xBl, xLst, xTup, xScr, xDic, xObj, xVal, xPLst, xPMat, xPDic, xSlot, xSlotI, xFld, xOb, xNewFld, xR1, xR2, xR3, xR4, xK1, xK2, xN1, xN2, xN3, xN4, xN5, xN6, xT1, xT2, xC1, xC2, xC3, xC4, xC5, xC6, xC7, xC8, xC9, xC10, xB1, xB2, xB3, xB4, xB5, xB6, xB7, xI1, xI2, xI3, xL1, xL2, xL3, xL4, xL5, xL6, xSc, xFr, xZZ, xYY, xPar, sq_rt, sq_ex, sq_xk, nx_xk, xXk, sSkip, sSeq, sFrz, sAsg, sAsgL, sAsgD, sAsgM, sSetIx, sSetIx2, sSetAt, sSetAtL, sSetAtD, sSetAtM, sSetF, sSetF2, sExpr, sApp, sRev, sClr, sAppT, sClrT, sIf, sRet, sRetN, sRaise, D.nc, D.ncs, Wd.put_same, Wd.put_put, gS0, gS1, aA0, aA1, aA2, xS1, xS2, xS3, xS4, xS5, xS6, xS7, hw, mapOb, fget]
  refine ⟨fun h0 => ⟨fun h1 => dex (q2 (inr_no.mpr (by omega))), fun h1 => dnx (q1 (inr_iff.mpr ⟨h0, h1⟩))⟩, fun h0 => dex (q2 (inr_no.mpr (by omega)))⟩
/-- a place known, or refused -/
theorem known_use {p : Nat} {a n : Int} {M : Mx} {w : Wd} {Q : D → Wd → Prop} {E : Ex → Wd → Prop} (hw : w p = some (mapOb n M)) (h1 : inr n a = true → Q .non w) (h2 : inr n a = false → E .noPlace w) : S_known [.obj p, .int a] w Q E := ⟨p, a, n, M, rfl, hw, h1, h2⟩
theorem mapC {n : Int} {M : Mx} : (mapOb n M).c = .map := rfl
theorem map_fget {n : Int} {M : Mx} : fget (mapOb n M).fs .rows = some (.mat (rowsD M)) := rfl
theorem map_fgetS {n : Int} {M : Mx} : fget (mapOb n M).fs .size = some (.val (.int n) true) := rfl
theorem map_fput {n : Int} {M M' : Mx} : (⟨(mapOb n M).c, fput (mapOb n M).fs .rows (.mat (rowsD M'))⟩ : Ob) = mapOb n M' := rfl
theorem ok_2 (Phi : Nat → LSp) (h1 : Phi 1 = S_known) : LOk Phi b_2 3 0 S_link := by
  rintro ds w Q E ⟨p, a, b, n, M, rfl, hw, wf, q1, q2, q3⟩
  refine ⟨rfl, ?_⟩
  simp [b_2, lev, levs, xSome, xInt, xBl, xLst, xTup, xScr, xDic, xObj, xVal, xPLst, xPMat, xPDic, xSlot, xSlotI, xFld, xOb, xNewFld, xR1, xR2, xR3, xR4, xK1, xK2, xN1, xN2, xN3, xN4, xN5, xN6, xT1, xT2, xC1, xC2, xC3, xC4, xC5, xC6, xC7, xC8, xC9, xC10, xB1, xB2, xB3, xB4, xB5, xB6, xB7, xI1, xI2, xI3, xL1, xL2, xL3, xL4, xL5, xL6, xSc, xFr, xZZ, xYY, xPar, sq_rt, sq_ex, sq_xk, nx_xk, xXk, sSkip, sSeq, sFrz, sAsg, sAsgL, sAsgD, sAsgM, sSetIx, sSetIx2, sSetAt, sSetAtL, sSetAtD, sSetAtM, sSetF, sSetF2, sExpr, sApp, sRev, sClr, sAppT, sClrT, sIf, sRet, sRetN, sRaise, D.nc, D.ncs, Wd.put_same, Wd.put_put, gS0, gS1, aA0, aA1, aA2, xS1, xS2, xS3, xS4, xS5, xS6, xS7, hw, h1, mapC]
  refine known_use hw (fun i => ?_) fun i => dxk (q1 (.inl i))
  rw [sq_nx]
  simp [lev, levs, xSome, xInt, xBl, xLst, xTup, xScr, xDic, xObj, xVal, xPLst, xPMat, xPDic, xSlot, xSlotI, xFld, xOb, xNewFld, xR1, xR2, xR3, xR4, xK1, xK2, xN1, xN2, xN3, xN4, xN5, xN6, xT1, xT2, xC1, xC2, xC3, xC4, xC5, xC6, xC7, xC8, xC9, xC10, xB1, xB2, xB3, xB4, xB5, xB6, xB7, xI1, xI2, xI3, xL1, xL2, xL3, xL4, xL5, xL6, xSc, xFr, xZZ, xYY, xPar, sq_rt, sq_ex, sq_xk, nx_xk, xXk, sSkip, sSeq, sFrz, sAsg, sAsgL, sAsgD, sAsgM, sSetIx, sSetIx2, sSetAt, sSetAtL, sSetAtD, sSetAtM, sSetF, sSetF2, sExpr, sApp, sRev, sClr, sAppT, sClrT, sIf, sRet, sRetN, sRaise, D.nc, D.ncs, Wd.put_same, Wd.put_put, gS0, gS1, aA0, aA1, aA2, xS1, xS2, xS3, xS4, xS5, xS6, xS7, hw, h1, mapC]
  refine known_use hw (fun j => ?_) fun j => dxk (q1 (.inr j))
  rw [sq_nx]
  simp [lev, levs, xSome, xInt, xBl, xLst, xTup, xScr, xDic, xObj, xVal, xPLst, xPMat, xPDic, xSlot, xSlotI, xFld, xOb, xNewFld, xR1, xR2, xR3, xR4, xK1, xK2, xN1, xN2, xN3, xN4, xN5, xN6, xT1, xT2, xC1, xC2, xC3, xC4, xC5, xC6, xC7, xC8, xC9, xC10, xB1, xB2, xB3, xB4, xB5, xB6, xB7, xI1, xI2, xI3, xL1, xL2, xL3, xL4, xL5, xL6, xSc, xFr, xZZ, xYY, xPar, sq_rt, sq_ex, sq_xk, nx_xk, xXk, sSkip, sSeq, sFrz, sAsg, sAsgL, sAsgD, sAsgM, sSetIx, sSetIx2, sSetAt, sSetAtL, sSetAtD, sSetAtM, sSetF, sSetF2, sExpr, sApp, sRev, sClr, sAppT, sClrT, sIf, sRet, sRetN, sRaise, D.nc, D.ncs, Wd.put_same, Wd.put_put, gS0, gS1, aA0, aA1, aA2, xS1, xS2, xS3, xS4, xS5, xS6, xS7, D.plN, D.eqv]
  refine ⟨fun e => dex (q2 i j e), fun e => ?_⟩
  rw [sq_nx]
  obtain ⟨a0, a1⟩ := inr_iff.mp i
  obtain ⟨b0, b1⟩ := inr_iff.mp j
  have r1 := (wf.put (a := a) (b := b) i).rowLen j
  have r2 := wf.rowLen i
  simp only [lev, levs, xSome, xInt, xBl, xLst, xTup, xScr, xDic, xObj, xVal, xPLst, xPMat, xPDic, xSlot, xSlotI, xFld, xOb, xNewFld, xR1, xR2, xR3, xR4, xK1, xK2, xN1, xN2, xN3, xN4, xN5, xN6, xT1, xT2, xC1, xC2, xC3, xC4, xC5, xC6, xC7, xC8, xC9, xC10, xB1, xB2, xB3, xB4, xB5, xB6, xB7, xI1, xI2, xI3, xL1, xL2, xL3, xL4, xL5, xL6, xSc, xFr, xZZ, xYY, xPar, sq_rt, sq_ex, sq_xk, nx_xk, xXk, sSkip, sSeq, sFrz, sAsg, sAsgL, sAsgD, sAsgM, sSetIx, sSetIx2, sSetAt, sSetAtL, sSetAtD, sSetAtM, sSetF, sSetF2, sExpr, sApp, sRev, sClr, sAppT, sClrT, sIf, sRet, sRetN, sRaise, D.nc, D.ncs, Wd.put_same, Wd.put_put, gS0, gS1, aA0, aA1, aA2, xS1, xS2, xS3, xS4, xS5, xS6, xS7, hw, map_fget, wf.at i, List.getElem?_cons_zero, List.getElem?_cons_succ, List.length_map, r2]
  refine ⟨trivial, b0, by omega, ?_⟩
  rw [sq_nx, rows_put, map_fput]
  simp only [lev, levs, xSome, xInt, xBl, xLst, xTup, xScr, xDic, xObj, xVal, xPLst, xPMat, xPDic, xSlot, xSlotI, xFld, xOb, xNewFld, xR1, xR2, xR3, xR4, xK1, xK2, xN1, xN2, xN3, xN4, xN5, xN6, xT1, xT2, xC1, xC2, xC3, xC4, xC5, xC6, xC7, xC8, xC9, xC10, xB1, xB2, xB3, xB4, xB5, xB6, xB7, xI1, xI2, xI3, xL1, xL2, xL3, xL4, xL5, xL6, xSc, xFr, xZZ, xYY, xPar, sq_rt, sq_ex, sq_xk, nx_xk, xXk, sSkip, sSeq, sFrz, sAsg, sAsgL, sAsgD, sAsgM, sSetIx, sSetIx2, sSetAt, sSetAtL, sSetAtD, sSetAtM, sSetF, sSetF2, sExpr, sApp, sRev, sClr, sAppT, sClrT, sIf, sRet, sRetN, sRaise, D.nc, D.ncs, Wd.put_same, Wd.put_put, gS0, gS1, aA0, aA1, aA2, xS1, xS2, xS3, xS4, xS5, xS6, xS7, map_fget, (wf.put (b := b) i).at j, List.getElem?_cons_zero, List.getElem?_cons_succ, List.length_map, r1]
  refine ⟨trivial, a0, by omega, ?_⟩
  rw [rows_put, map_fput]
  exact dnx (q3 i j e)
theorem ok_3 (Phi : Nat → LSp) (h1 : Phi 1 = S_known) : LOk Phi b_3 3 0 S_beside := by
  rintro ds w Q E ⟨p, a, b, n, M, rfl, hw, wf, q1, q2⟩
  refine ⟨rfl, ?_⟩
  simp [b_3, lev, levs, xSome, xInt, xBl, xLst, xTup, xScr, xDic, xObj, xVal, xPLst, xPMat, xPDic, xSlot, xSlotI, xFld, xOb, xNewFld, xR1, xR2, xR3, xR4, xK1, xK2, xN1, xN2, xN3, xN4, xN5, xN6, xT1, xT2, xC1, xC2, xC3, xC4, xC5, xC6, xC7, xC8, xC9, xC10, xB1, xB2, xB3, xB4, xB5, xB6, xB7, xI1, xI2, xI3, xL1, xL2, xL3, xL4, xL5, xL6, xSc, xFr, xZZ, xYY, xPar, sq_rt, sq_ex, sq_xk, nx_xk, xXk, sSkip, sSeq, sFrz, sAsg, sAsgL, sAsgD, sAsgM, sSetIx, sSetIx2, sSetAt, sSetAtL, sSetAtD, sSetAtM, sSetF, sSetF2, sExpr, sApp, sRev, sClr, sAppT, sClrT, sIf, sRet, sRetN, sRaise, D.nc, D.ncs, Wd.put_same, Wd.put_put, gS0, gS1, aA0, aA1, aA2, xS1, xS2, xS3, xS4, xS5, xS6, xS7, hw, h1, mapC]
  refine known_use hw (fun i => ?_) fun i => dxk (q1 (.inl i))
  rw [sq_nx]
  simp [lev, levs, xSome, xInt, xBl, xLst, xTup, xScr, xDic, xObj, xVal, xPLst, xPMat, xPDic, xSlot, xSlotI, xFld, xOb, xNewFld, xR1, xR2, xR3, xR4, xK1, xK2, xN1, xN2, xN3, xN4, xN5, xN6, xT1, xT2, xC1, xC2, xC3, xC4, xC5, xC6, xC7, xC8, xC9, xC10, xB1, xB2, xB3, xB4, xB5, xB6, xB7, xI1, xI2, xI3, xL1, xL2, xL3, xL4, xL5, xL6, xSc, xFr, xZZ, xYY, xPar, sq_rt, sq_ex, sq_xk, nx_xk, xXk, sSkip, sSeq, sFrz, sAsg, sAsgL, sAsgD, sAsgM, sSetIx, sSetIx2, sSetAt, sSetAtL, sSetAtD, sSetAtM, sSetF, sSetF2, sExpr, sApp, sRev, sClr, sAppT, sClrT, sIf, sRet, sRetN, sRaise, D.nc, D.ncs, Wd.put_same, Wd.put_put, gS0, gS1, aA0, aA1, aA2, xS1, xS2, xS3, xS4, xS5, xS6, xS7, hw, h1, mapC]
  refine known_use hw (fun j => ?_) fun j => dxk (q1 (.inr j))
  rw [sq_nx]
  simp only [lev, levs, xSome, xInt, xBl, xLst, xTup, xScr, xDic, xObj, xVal, xPLst, xPMat, xPDic, xSlot, xSlotI, xFld, xOb, xNewFld, xR1, xR2, xR3, xR4, xK1, xK2, xN1, xN2, xN3, xN4, xN5, xN6, xT1, xT2, xC1, xC2, xC3, xC4, xC5, xC6, xC7, xC8, xC9, xC10, xB1, xB2, xB3, xB4, xB5, xB6, xB7, xI1, xI2, xI3, xL1, xL2, xL3, xL4, xL5, xL6, xSc, xFr, xZZ, xYY, xPar, sq_rt, sq_ex, sq_xk, nx_xk, xXk, sSkip, sSeq, sFrz, sAsg, sAsgL, sAsgD, sAsgM, sSetIx, sSetIx2, sSetAt, sSetAtL, sSetAtD, sSetAtM, sSetF, sSetF2, sExpr, sApp, sRev, sClr, sAppT, sClrT, sIf, sRet, sRetN, sRaise, D.nc, D.ncs, Wd.put_same, Wd.put_put, gS0, gS1, aA0, aA1, aA2, xS1, xS2, xS3, xS4, xS5, xS6, xS7, hw, map_fget, wf.at i, wf.at2 i j, List.getElem?_cons_zero, List.getElem?_cons_succ]
  refine drt rfl ?_
  exact q2 i j
theorem ok_4 (Phi : Nat → LSp) (h1 : Phi 1 = S_known) : LOk Phi b_4 2 1 S_near := by
  rintro ds w Q E ⟨p, a, n, M, rfl, hw, wf, q1, q2⟩
  refine ⟨rfl, ?_⟩
  simp [b_4, lev, levs, xSome, xInt, xBl, xLst, xTup, xScr, xDic, xObj, xVal, xPLst, xPMat, xPDic, xSlot, xSlotI, xFld, xOb, xNewFld, xR1, xR2, xR3, xR4, xK1, xK2, xN1, xN2, xN3, xN4, xN5, xN6, xT1, xT2, xC1, xC2, xC3, xC4, xC5, xC6, xC7, xC8, xC9, xC10, xB1, xB2, xB3, xB4, xB5, xB6, xB7, xI1, xI2, xI3, xL1, xL2, xL3, xL4, xL5, xL6, xSc, xFr, xZZ, xYY, xPar, sq_rt, sq_ex, sq_xk, nx_xk, xXk, sSkip, sSeq, sFrz, sAsg, sAsgL, sAsgD, sAsgM, sSetIx, sSetIx2, sSetAt, sSetAtL, sSetAtD, sSetAtM, sSetF, sSetF2, sExpr, sApp, sRev, sClr, sAppT, sClrT, sIf, sRet, sRetN, sRaise, D.nc, D.ncs, Wd.put_same, Wd.put_put, gS0, gS1, aA0, aA1, aA2, xS1, xS2, xS3, xS4, xS5, xS6, xS7, hw, h1, mapC]
  refine known_use hw (fun i => ?_) fun i => dxk (q1 i)
  rw [sq_nx]
  have n0 := wf.n0
  have n1 := wf.n1
  simp only [lev, levs, xSome, xInt, xBl, xLst, xTup, xScr, xDic, xObj, xVal, xPLst, xPMat, xPDic, xSlot, xSlotI, xFld, xOb, xNewFld, xR1, xR2, xR3, xR4, xK1, xK2, xN1, xN2, xN3, xN4, xN5, xN6, xT1, xT2, xC1, xC2, xC3, xC4, xC5, xC6, xC7, xC8, xC9, xC10, xB1, xB2, xB3, xB4, xB5, xB6, xB7, xI1, xI2, xI3, xL1, xL2, xL3, xL4, xL5, xL6, xSc, xFr, xZZ, xYY, xPar, sq_rt, sq_ex, sq_xk, nx_xk, xXk, sSkip, sSeq, sFrz, sAsg, sAsgL, sAsgD, sAsgM, sSetIx, sSetIx2, sSetAt, sSetAtL, sSetAtD, sSetAtM, sSetF, sSetF2, sExpr, sApp, sRev, sClr, sAppT, sClrT, sIf, sRet, sRetN, sRaise, D.nc, D.ncs, Wd.put_same, Wd.put_put, gS0, gS1, aA0, aA1, aA2, xS1, xS2, xS3, xS4, xS5, xS6, xS7, hw, map_fgetS, List.getElem?_cons_zero, List.getElem?_cons_succ, List.replicate]
  refine ⟨by intro pc e; simp at e, by omega, by omega, compI (fun d => match d with | .int b => if adj M a b then some d else none | _ => none) ?_ (fun d hd m => ?_) ?_⟩
  · simp [top]; omega
  · obtain ⟨k, hk, rfl⟩ := List.mem_map.mp hd
    have hk := List.mem_range.mp hk
    have j : inr n (k : Int) = true := inr_iff.mpr ⟨by omega, by omega⟩
    simp [lev, levs, xSome, xInt, xBl, xLst, xTup, xScr, xDic, xObj, xVal, xPLst, xPMat, xPDic, xSlot, xSlotI, xFld, xOb, xNewFld, xR1, xR2, xR3, xR4, xK1, xK2, xN1, xN2, xN3, xN4, xN5, xN6, xT1, xT2, xC1, xC2, xC3, xC4, xC5, xC6, xC7, xC8, xC9, xC10, xB1, xB2, xB3, xB4, xB5, xB6, xB7, xI1, xI2, xI3, xL1, xL2, xL3, xL4, xL5, xL6, xSc, xFr, xZZ, xYY, xPar, sq_rt, sq_ex, sq_xk, nx_xk, xXk, sSkip, sSeq, sFrz, sAsg, sAsgL, sAsgD, sAsgM, sSetIx, sSetIx2, sSetAt, sSetAtL, sSetAtD, sSetAtM, sSetF, sSetF2, sExpr, sApp, sRev, sClr, sAppT, sClrT, sIf, sRet, sRetN, sRaise, D.nc, D.ncs, Wd.put_same, Wd.put_put, gS0, gS1, aA0, aA1, aA2, xS1, xS2, xS3, xS4, xS5, xS6, xS7, hw, map_fget, wf.at i, wf.at2 i j]
  · refine drt rfl ?_
    have := q2 i
    rw [nearL] at this
    show Q (.lst _) w
    rw [List.filterMap_map]
    have e := fm_eq (fun b : Nat => adj M a (b : Int)) (List.range n.toNat)
    rw [show (List.filterMap ((fun d => match d with | D.int b => if adj M a b = true then some d else none | _ => none) ∘ fun m : Nat => D.int (m : Int)) (List.range n.toNat)) = (List.range n.toNat).filterMap fun b : Nat => if adj M a (b : Int) = true then some (D.int (b : Int)) else none from rfl]
    rw [e]
    exact this
section
variable {p : Nat} {a b n : Int} {M : Mx} {w : Wd} {Q : D → Wd → Prop} {E : Ex → Wd → Prop}
theorem beside_use (hw : w p = some (mapOb n M)) (wf : Wf n M) (i : inr n a = true) (j : inr n b = true) (h : Q (.bl (adj M a b)) w) : S_beside [.obj p, .int a, .int b] w Q E :=
  ⟨p, a, b, n, M, rfl, hw, wf, (fun z => by rcases z with z | z <;> simp [z] at i j), fun _ _ => h⟩
theorem near_use (hw : w p = some (mapOb n M)) (wf : Wf n M) (i : inr n a = true) (h : Q (.lst ((nearL n M a).map D.int)) w) : S_near [.obj p, .int a] w Q E :=
  ⟨p, a, n, M, rfl, hw, wf, (fun z => by simp [z] at i), fun _ => h⟩
theorem link_use (hw : w p = some (mapOb n M)) (wf : Wf n M) (i : inr n a = true) (j : inr n b = true) (ne : a ≠ b) (h : Q .non (w.put p (mapOb n (lnk M a b)))) : S_link [.obj p, .int a, .int b] w Q E :=
  ⟨p, a, b, n, M, rfl, hw, wf, (fun z => by rcases z with z | z <;> simp [z] at i j), (fun _ _ z => absurd z ne), fun _ _ _ => h⟩
theorem init_use (hw : w p = some ⟨.map, []⟩) (h0 : 0 ≤ n) (h1 : n ≤ 1000) (h : Q .non (w.put p (mapOb n (emptyM n)))) : S_minit [.obj p, .int n] w Q E := ⟨p, n, rfl, hw, h0, h1, h⟩
end
/-! neighbours, both ways -/
theorem adj_put {n : Int} {M : Mx} (wf : Wf n M) {a b c d : Int} (i : inr n a = true) (j : inr n b = true) (k : inr n c = true) (l : inr n d = true) : adj (putM M a b) c d = (decide (c = a ∧ d = b) || adj M c d) := by
  obtain ⟨a0, a1⟩ := inr_iff.mp i
  obtain ⟨b0, b1⟩ := inr_iff.mp j
  obtain ⟨c0, c1⟩ := inr_iff.mp k
  obtain ⟨d0, d1⟩ := inr_iff.mp l
  have hr := wf.rowLen i
  unfold adj
  by_cases e : c = a
  · subst e
    have hrow : rowM (putM M c b) c = (rowM M c).set b.toNat true := by
      have hl : c.toNat < M.length := by rw [wf.len]; omega
      unfold putM
      generalize rowM M c = z
      unfold rowM
      rw [List.getD_eq_getElem?_getD, List.getElem?_set_self hl]; rfl
    rw [hrow]
    by_cases e2 : d = b
    · subst e2
      rw [List.getD_eq_getElem?_getD, List.getElem?_set_self (by rw [hr]; omega)]
      simp
    · have : b.toNat ≠ d.toNat := by omega
      rw [List.getD_eq_getElem?_getD, List.getElem?_set_ne this, ← List.getD_eq_getElem?_getD]
      simp [e2]
  · have : a.toNat ≠ c.toNat := by omega
    have hrow : rowM (putM M a b) c = rowM M c := by
      unfold putM
      generalize rowM M a = z
      unfold rowM
      rw [List.getD_eq_getElem?_getD, List.getElem?_set_ne this, ← List.getD_eq_getElem?_getD]
    rw [hrow]
    simp [e]
theorem adj_lnk {n : Int} {M : Mx} (wf : Wf n M) {a b c d : Int} (i : inr n a = true) (j : inr n b = true) (k : inr n c = true) (l : inr n d = true) : adj (lnk M a b) c d = (decide (c = b ∧ d = a) || (decide (c = a ∧ d = b) || adj M c d)) := by
  unfold lnk
  rw [adj_put (wf.put i) j i k l, adj_put wf i j k l]
def Sym (n : Int) (M : Mx) : Prop := ∀ a b, inr n a = true → inr n b = true → adj M a b = adj M b a
theorem Sym.lnk {n : Int} {M : Mx} (s : Sym n M) (wf : Wf n M) {a b : Int} (i : inr n a = true) (j : inr n b = true) : Sym n (lnk M a b) := fun c d k l => by
  rw [adj_lnk wf i j k l, adj_lnk wf i j l k, s c d k l]
  by_cases e1 : c = a <;> by_cases e2 : d = b <;> by_cases e3 : c = b <;> by_cases e4 : d = a <;> simp_all
theorem adj_empty {n a b : Int} : adj (emptyM n) a b = false := by
  unfold adj rowM emptyM
  rw [List.getD_eq_getElem?_getD, List.getD_eq_getElem?_getD, List.getElem?_replicate]
  split
  · simp only [Option.getD_some, List.getElem?_replicate]
    split <;> rfl
  · simp
theorem Sym.empty {n : Int} : Sym n (emptyM n) := fun a b _ _ => by rw [adj_empty, adj_empty]
theorem near_empty {n a : Int} : nearL n (emptyM n) a = [] := by
  unfold nearL
  rw [List.map_eq_nil_iff, List.filter_eq_nil_iff]
  intro b _
  rw [adj_empty]; simp
end LL
end
section
set_option linter.all false
/-! LH: helpers that the laws share. -/
namespace LL
def cellI (ns : List Int) (k : Int) : Int := if 0 ≤ k then (ns[k.toNat]?).getD 0 else 0
/-- 0 ≤ a < n, of two slots -/
theorem levIn {Phi : Nat → LSp} {env : Env} {w : Wd} {V : VK} {Ek : XKd} {i j : Nat} {a n : Int} {y y' : Bool} (hi : env[i]? = some (some (.val (.int a) y))) (hj : env[j]? = some (some (.val (.int n) y'))) (h : V (sc (.bl (inr n a))) w) :
    lev Phi (.chain .le .lt (.cst (.int 0)) (.var i) (.var j)) env w V Ek := by
  simp only [lev, levs, xSome, xInt, xBl, xLst, xTup, xScr, xDic, xObj, xVal, xPLst, xPMat, xPDic, xSlot, xSlotI, xFld, xOb, xNewFld, xR1, xR2, xR3, xR4, xK1, xK2, xN1, xN2, xN3, xN4, xN5, xN6, xT1, xT2, xC1, xC2, xC3, xC4, xC5, xC6, xC7, xC8, xC9, xC10, xB1, xB2, xB3, xB4, xB5, xB6, xB7, xI1, xI2, xI3, xL1, xL2, xL3, xL4, xL5, xL6, xSc, xFr, xZZ, xYY, xPar, sq_rt, sq_ex, sq_xk, nx_xk, xXk, sSkip, sSeq, sFrz, sAsg, sAsgL, sAsgD, sAsgM, sSetIx, sSetIx2, sSetAt, sSetAtL, sSetAtD, sSetAtM, sSetF, sSetF2, sExpr, sApp, sRev, sClr, sAppT, sClrT, sIf, sRet, sRetN, sRaise, D.nc, D.ncs, Wd.put_same, Wd.put_put, gS0, gS1, aA0, aA1, aA2, xS1, xS2, xS3, xS4, xS5, xS6, xS7, hi, hj]
  refine ⟨fun z => ?_, fun z => ?_⟩
  · have e : decide (a < n) = inr n a := by simp [inr, of_decide_eq_true z]
    rw [e]; exact h
  · have e : inr n a = false := by simp [inr, z]
    rw [e] at h; exact h
def H_cell (b : MS Nat) : Prop := b = (.seq (.ifS (.cmp .lt (.var 1) (.blt .len (.cons (.var 0) .nil))) (.ret (.idx (.var 0) (.var 1))) .skip) (.ret (.cst (.int 0))))
def S_cell : LSp := fun ds w Q E => ∃ ns k, ds = [.scr ns, .int k] ∧ 0 ≤ k ∧ Q (.int (cellI ns k)) w
theorem ok_cell {Phi : Nat → LSp} {b : MS Nat} (hb : H_cell b) : LOk Phi b 2 0 S_cell := by
  rintro ds w Q E ⟨ns, k, rfl, h0, q⟩
  refine ⟨rfl, ?_⟩
  unfold H_cell at hb
  subst hb
  simp [lev, levs, xSome, xInt, xBl, xLst, xTup, xScr, xDic, xObj, xVal, xPLst, xPMat, xPDic, xSlot, xSlotI, xFld, xOb, xNewFld, xR1, xR2, xR3, xR4, xK1, xK2, xN1, xN2, xN3, xN4, xN5, xN6, xT1, xT2, xC1, xC2, xC3, xC4, xC5, xC6, xC7, xC8, xC9, xC10, xB1, xB2, xB3, xB4, xB5, xB6, xB7, xI1, xI2, xI3, xL1, xL2, xL3, xL4, xL5, xL6, xSc, xFr, xZZ, xYY, xPar, sq_rt, sq_ex, sq_xk, nx_xk, xXk, sSkip, sSeq, sFrz, sAsg, sAsgL, sAsgD, sAsgM, sSetIx, sSetIx2, sSetAt, sSetAtL, sSetAtD, sSetAtM, sSetF, sSetF2, sExpr, sApp, sRev, sClr, sAppT, sClrT, sIf, sRet, sRetN, sRaise, D.nc, D.ncs, Wd.put_same, Wd.put_put, gS0, gS1, aA0, aA1, aA2, xS1, xS2, xS3, xS4, xS5, xS6, xS7]
  refine ⟨fun h => ?_, fun h => ?_⟩
  · have hl : k.toNat < ns.length := by omega
    rw [at0_of h0, List.getElem?_eq_getElem hl, xSome]
    refine drt rfl ?_
    rw [cellI, if_pos h0, List.getElem?_eq_getElem hl] at q
    exact q
  · rw [sq_nx]
    simp [lev, levs, xSome, xInt, xBl, xLst, xTup, xScr, xDic, xObj, xVal, xPLst, xPMat, xPDic, xSlot, xSlotI, xFld, xOb, xNewFld, xR1, xR2, xR3, xR4, xK1, xK2, xN1, xN2, xN3, xN4, xN5, xN6, xT1, xT2, xC1, xC2, xC3, xC4, xC5, xC6, xC7, xC8, xC9, xC10, xB1, xB2, xB3, xB4, xB5, xB6, xB7, xI1, xI2, xI3, xL1, xL2, xL3, xL4, xL5, xL6, xSc, xFr, xZZ, xYY, xPar, sq_rt, sq_ex, sq_xk, nx_xk, xXk, sSkip, sSeq, sFrz, sAsg, sAsgL, sAsgD, sAsgM, sSetIx, sSetIx2, sSetAt, sSetAtL, sSetAtD, sSetAtM, sSetF, sSetF2, sExpr, sApp, sRev, sClr, sAppT, sClrT, sIf, sRet, sRetN, sRaise, D.nc, D.ncs, Wd.put_same, Wd.put_put, gS0, gS1, aA0, aA1, aA2, xS1, xS2, xS3, xS4, xS5, xS6, xS7]
    refine drt rfl ?_
    rw [cellI, if_pos h0, List.getElem?_eq_none (by omega)] at q
    exact q
def H_whole (b : MS Nat) : Prop := b = (.ret (.and (.isi (.var 0) .int) (.not (.isi (.var 0) .bool))))
def S_whole : LSp := fun ds w Q E => ∃ k, ds = [.int k] ∧ Q (.bl true) w
theorem ok_whole {Phi : Nat → LSp} {b : MS Nat} (hb : H_whole b) : LOk Phi b 1 0 S_whole := by
  rintro ds w Q E ⟨k, rfl, q⟩
  refine ⟨rfl, ?_⟩
  unfold H_whole at hb
  subst hb
  simp [lev, levs, xSome, xInt, xBl, xLst, xTup, xScr, xDic, xObj, xVal, xPLst, xPMat, xPDic, xSlot, xSlotI, xFld, xOb, xNewFld, xR1, xR2, xR3, xR4, xK1, xK2, xN1, xN2, xN3, xN4, xN5, xN6, xT1, xT2, xC1, xC2, xC3, xC4, xC5, xC6, xC7, xC8, xC9, xC10, xB1, xB2, xB3, xB4, xB5, xB6, xB7, xI1, xI2, xI3, xL1, xL2, xL3, xL4, xL5, xL6, xSc, xFr, xZZ, xYY, xPar, sq_rt, sq_ex, sq_xk, nx_xk, xXk, sSkip, sSeq, sFrz, sAsg, sAsgL, sAsgD, sAsgM, sSetIx, sSetIx2, sSetAt, sSetAtL, sSetAtD, sSetAtM, sSetF, sSetF2, sExpr, sApp, sRev, sClr, sAppT, sClrT, sIf, sRet, sRetN, sRaise, D.nc, D.ncs, Wd.put_same, Wd.put_put, gS0, gS1, aA0, aA1, aA2, xS1, xS2, xS3, xS4, xS5, xS6, xS7]
  exact drt rfl q
def H_truth (b : MS Nat) : Prop := b = (.ret (.and (.isi (.var 0) .bool) (.cmp .eq (.var 0) (.var 1))))
def S_truth : LSp := fun ds w Q E => ∃ k, ds = [.bl k, .bl k] ∧ Q (.bl true) w
theorem ok_truth {Phi : Nat → LSp} {b : MS Nat} (hb : H_truth b) : LOk Phi b 2 0 S_truth := by
  rintro ds w Q E ⟨k, rfl, q⟩
  refine ⟨rfl, ?_⟩
  unfold H_truth at hb
  subst hb
  simp [lev, levs, xSome, xInt, xBl, xLst, xTup, xScr, xDic, xObj, xVal, xPLst, xPMat, xPDic, xSlot, xSlotI, xFld, xOb, xNewFld, xR1, xR2, xR3, xR4, xK1, xK2, xN1, xN2, xN3, xN4, xN5, xN6, xT1, xT2, xC1, xC2, xC3, xC4, xC5, xC6, xC7, xC8, xC9, xC10, xB1, xB2, xB3, xB4, xB5, xB6, xB7, xI1, xI2, xI3, xL1, xL2, xL3, xL4, xL5, xL6, xSc, xFr, xZZ, xYY, xPar, sq_rt, sq_ex, sq_xk, nx_xk, xXk, sSkip, sSeq, sFrz, sAsg, sAsgL, sAsgD, sAsgM, sSetIx, sSetIx2, sSetAt, sSetAtL, sSetAtD, sSetAtM, sSetF, sSetF2, sExpr, sApp, sRev, sClr, sAppT, sClrT, sIf, sRet, sRetN, sRaise, D.nc, D.ncs, Wd.put_same, Wd.put_put, gS0, gS1, aA0, aA1, aA2, xS1, xS2, xS3, xS4, xS5, xS6, xS7, D.plN, D.eqv]
  exact drt rfl q
end LL
end
section
set_option linter.all false
/-! LBoard: what the board's defs do. -/
namespace LL
abbrev Sd := List (Option Int)
def sdD : Option Int → D
  | none => .non
  | some i => .int i
def boardOb (m : Nat) (s : Sd) : Ob := ⟨.board, [(.chart, .val (.obj m) true), (.sides, .lst (s.map sdD))]⟩
def sideAt (s : Sd) (a : Int) : Option Int := (s[a.toNat]?).getD none
/-- a board at p, over a map at m -/
structure Bd (w : Wd) (p m : Nat) (n : Int) (M : Mx) (s : Sd) : Prop where
  b : w p = some (boardOb m s)
  m : w m = some (mapOb n M)
  wf : Wf n M
  len : s.length = n.toNat
def rollP (s : Sd) : List (Int × Int) := (List.range s.length).filterMap fun k : Nat => match s[k]? with
  | some (some v) => some ((k : Int), v)
  | _ => none
def pairD (p : Int × Int) : D := .tup [.int p.1, .int p.2]
theorem bdC {m : Nat} {s : Sd} : (boardOb m s).c = .board := rfl
theorem bd_chart {m : Nat} {s : Sd} : fget (boardOb m s).fs .chart = some (.val (.obj m) true) := rfl
theorem bd_sides {m : Nat} {s : Sd} : fget (boardOb m s).fs .sides = some (.lst (s.map sdD)) := rfl
theorem bd_fput {m : Nat} {s s' : Sd} : (⟨(boardOb m s).c, fput (boardOb m s).fs .sides (.lst (s'.map sdD))⟩ : Ob) = boardOb m s' := rfl
section
variable {w : Wd} {p m : Nat} {n : Int} {M : Mx} {s : Sd} {a : Int}
theorem Bd.at (h : Bd w p m n M s) (i : inr n a = true) : at0 (s.map sdD) a = some (sdD (sideAt s a)) := by
  obtain ⟨a0, a1⟩ := inr_iff.mp i
  have hl : a.toNat < s.length := by rw [h.len]; have := h.wf.n0; omega
  rw [at0_of a0, List.getElem?_map, sideAt, List.getElem?_eq_getElem hl]; rfl
theorem Bd.ne (h : Bd w p m n M s) : m ≠ p := fun e => by
  have h1 := h.b
  have h2 := h.m
  rw [e, h1] at h2
  have := congrArg Ob.c (Option.some.inj h2)
  cases this
theorem Bd.set (h : Bd w p m n M s) (v : Option Int) (a : Int) : Bd (w.put p (boardOb m (s.set a.toNat v))) p m n M (s.set a.toNat v) :=
  ⟨Wd.put_same, by rw [Wd.put_ne h.ne]; exact h.m, h.wf, by rw [List.length_set]; exact h.len⟩
end
def S_binit : LSp := fun ds w Q E => ∃ p m n M, ds = [.obj p, .obj m] ∧ w p = some ⟨.board, []⟩ ∧ w m = some (mapOb n M) ∧ Wf n M ∧ Q .non (w.put p (boardOb m (List.replicate n.toNat none)))
def S_post : LSp := fun ds w Q E => ∃ p m n M s a v, ds = [.obj p, .int a, .int v] ∧ Bd w p m n M s ∧ (inr n a = false → E .noPlace w) ∧ (inr n a = true → inr 8 v = false → E .noSide w) ∧
  (inr n a = true → inr 8 v = true → sideAt s a ≠ none → E .crowded w) ∧ (inr n a = true → inr 8 v = true → sideAt s a = none → Q .non (w.put p (boardOb m (s.set a.toNat (some v)))))
def S_side : LSp := fun ds w Q E => ∃ p m n M s a, ds = [.obj p, .int a] ∧ Bd w p m n M s ∧ (inr n a = false → E .noPlace w) ∧ (inr n a = true → Q (sdD (sideAt s a)) w)
def S_lift : LSp := fun ds w Q E => ∃ p m n M s a, ds = [.obj p, .int a] ∧ Bd w p m n M s ∧ (inr n a = false → E .noPlace w) ∧ (inr n a = true → sideAt s a = none → E .noUnit w) ∧
  (inr n a = true → sideAt s a ≠ none → Q .non (w.put p (boardOb m (s.set a.toNat none))))
def S_roll : LSp := fun ds w Q E => ∃ p m n M s, ds = [.obj p] ∧ Bd w p m n M s ∧ Q (.lst ((rollP s).map pairD)) w
def rollI (s : Sd) : D → Option D
  | .int k => (sideAt s k).map fun v => pairD (k, v)
  | _ => none
theorem rollI_all {n : Nat} (s : Sd) (h : s.length = n) : (((List.range n).map fun m => D.int (m : Nat)).filterMap (rollI s)) = (rollP s).map pairD := by
  subst h
  unfold rollP
  rw [List.filterMap_map, List.map_filterMap]
  congr 1
  funext k
  show (sideAt s (k : Int)).map _ = _
  unfold sideAt
  rw [Int.toNat_natCast]
  cases s[k]? with
  | none => rfl
  | some o => cases o <;> rfl
theorem isNon_sd (o : Option Int) : (sdD o).isNon = decide (o = none) := by cases o <;> rfl
theorem nc_sd (o : Option Int) : (sdD o).nc = true := by cases o <;> rfl
theorem ncs_sd : ∀ s : Sd, D.ncs (s.map sdD) = true
  | [] => rfl
  | o :: s => by rw [List.map_cons, D.ncs, nc_sd, ncs_sd s]; rfl
theorem ok_5 (Phi : Nat → LSp) : LOk Phi b_5 2 0 S_binit := by
  rintro ds w Q E ⟨p, m, n, M, rfl, hp, hm, wf, q⟩
  refine ⟨rfl, ?_⟩
  have ne : m ≠ p := fun e => by rw [e, hp] at hm; have := congrArg Ob.c (Option.some.inj hm); cases this
  have n0 := wf.n0
  have n1 := wf.n1
  simp only [b_5, lev, levs, xSome, xInt, xBl, xLst, xTup, xScr, xDic, xObj, xVal, xPLst, xPMat, xPDic, xSlot, xSlotI, xFld, xOb, xNewFld, xR1, xR2, xR3, xR4, xK1, xK2, xN1, xN2, xN3, xN4, xN5, xN6, xT1, xT2, xC1, xC2, xC3, xC4, xC5, xC6, xC7, xC8, xC9, xC10, xB1, xB2, xB3, xB4, xB5, xB6, xB7, xI1, xI2, xI3, xL1, xL2, xL3, xL4, xL5, xL6, xSc, xFr, xZZ, xYY, xPar, sq_rt, sq_ex, sq_xk, nx_xk, xXk, sSkip, sSeq, sFrz, sAsg, sAsgL, sAsgD, sAsgM, sSetIx, sSetIx2, sSetAt, sSetAtL, sSetAtD, sSetAtM, sSetF, sSetF2, sExpr, sApp, sRev, sClr, sAppT, sClrT, sIf, sRet, sRetN, sRaise, D.nc, D.ncs, Wd.put_same, Wd.put_put, gS0, gS1, aA0, aA1, aA2, xS1, xS2, xS3, xS4, xS5, xS6, xS7, hp, List.map_cons, List.map_nil, List.cons_append, List.nil_append, List.replicate]
  refine ⟨.inr trivial, by decide, by rfl, ?_⟩
  rw [sq_nx]
  simp only [lev, levs, xSome, xInt, xBl, xLst, xTup, xScr, xDic, xObj, xVal, xPLst, xPMat, xPDic, xSlot, xSlotI, xFld, xOb, xNewFld, xR1, xR2, xR3, xR4, xK1, xK2, xN1, xN2, xN3, xN4, xN5, xN6, xT1, xT2, xC1, xC2, xC3, xC4, xC5, xC6, xC7, xC8, xC9, xC10, xB1, xB2, xB3, xB4, xB5, xB6, xB7, xI1, xI2, xI3, xL1, xL2, xL3, xL4, xL5, xL6, xSc, xFr, xZZ, xYY, xPar, sq_rt, sq_ex, sq_xk, nx_xk, xXk, sSkip, sSeq, sFrz, sAsg, sAsgL, sAsgD, sAsgM, sSetIx, sSetIx2, sSetAt, sSetAtL, sSetAtD, sSetAtM, sSetF, sSetF2, sExpr, sApp, sRev, sClr, sAppT, sClrT, sIf, sRet, sRetN, sRaise, D.nc, D.ncs, Wd.put_same, Wd.put_put, gS0, gS1, aA0, aA1, aA2, xS1, xS2, xS3, xS4, xS5, xS6, xS7, Wd.put_ne ne, hm, map_fgetS]
  refine ⟨by simp, n0, n1, by simp, by rfl, trivial, trivial, ?_⟩
  have e : (List.replicate n.toNat (List.map (fun x : R => x.d) [{ d := D.non, z := true, y := true, f := false }])).flatten = (List.replicate n.toNat none).map sdD := by
    generalize n.toNat = k
    induction k with
    | zero => rfl
    | succ k ih => rw [List.replicate_succ, List.flatten_cons, ih, List.replicate_succ, List.map_cons]; rfl
  rw [e]
  refine ⟨ncs_sd _, by show 1 < 10; decide, by rfl, ?_⟩
  exact dnx q
theorem ok_6 (Phi : Nat → LSp) (h1 : Phi 1 = S_known) : LOk Phi b_6 3 0 S_post := by
  rintro ds w Q E ⟨p, m, n, M, s, a, v, rfl, B, q1, q2, q3, q4⟩
  refine ⟨rfl, ?_⟩
  simp only [b_6, lev, levs, xSome, xInt, xBl, xLst, xTup, xScr, xDic, xObj, xVal, xPLst, xPMat, xPDic, xSlot, xSlotI, xFld, xOb, xNewFld, xR1, xR2, xR3, xR4, xK1, xK2, xN1, xN2, xN3, xN4, xN5, xN6, xT1, xT2, xC1, xC2, xC3, xC4, xC5, xC6, xC7, xC8, xC9, xC10, xB1, xB2, xB3, xB4, xB5, xB6, xB7, xI1, xI2, xI3, xL1, xL2, xL3, xL4, xL5, xL6, xSc, xFr, xZZ, xYY, xPar, sq_rt, sq_ex, sq_xk, nx_xk, xXk, sSkip, sSeq, sFrz, sAsg, sAsgL, sAsgD, sAsgM, sSetIx, sSetIx2, sSetAt, sSetAtL, sSetAtD, sSetAtM, sSetF, sSetF2, sExpr, sApp, sRev, sClr, sAppT, sClrT, sIf, sRet, sRetN, sRaise, D.nc, D.ncs, Wd.put_same, Wd.put_put, gS0, gS1, aA0, aA1, aA2, xS1, xS2, xS3, xS4, xS5, xS6, xS7, B.b, bd_chart, B.m, mapC, h1, List.map_cons, List.map_nil, List.cons_append, List.nil_append, List.replicate]
  refine ⟨trivial, known_use B.m (fun i => ?_) fun i => dxk (q1 i)⟩
  rw [sq_nx, sSeq, sIf, vNot]
  simp only [lev, levs, xSome, xInt, xBl, xLst, xTup, xScr, xDic, xObj, xVal, xPLst, xPMat, xPDic, xSlot, xSlotI, xFld, xOb, xNewFld, xR1, xR2, xR3, xR4, xK1, xK2, xN1, xN2, xN3, xN4, xN5, xN6, xT1, xT2, xC1, xC2, xC3, xC4, xC5, xC6, xC7, xC8, xC9, xC10, xB1, xB2, xB3, xB4, xB5, xB6, xB7, xI1, xI2, xI3, xL1, xL2, xL3, xL4, xL5, xL6, xSc, xFr, xZZ, xYY, xPar, sq_rt, sq_ex, sq_xk, nx_xk, xXk, sSkip, sSeq, sFrz, sAsg, sAsgL, sAsgD, sAsgM, sSetIx, sSetIx2, sSetAt, sSetAtL, sSetAtD, sSetAtM, sSetF, sSetF2, sExpr, sApp, sRev, sClr, sAppT, sClrT, sIf, sRet, sRetN, sRaise, D.nc, D.ncs, Wd.put_same, Wd.put_put, gS0, gS1, aA0, aA1, aA2, xS1, xS2, xS3, xS4, xS5, xS6, xS7]
  have e8 : inr 8 v = (decide (0 ≤ v) && decide (v ≤ 7)) := by unfold inr; rw [Bool.eq_iff_iff]; simp; omega
  have fin : inr 8 v = true → (Ends.sq Phi (.seq (.ifS (.notN (.attrIx (.var 0) .sides 1)) (.raise .crowded) .skip) (.setFIx (.var 0) .sides 1 (.var 2))) (defEnds Q E)).nx [some (.val (.obj p) false), some (.val (.int a) false), some (.val (.int v) false)] w := fun i8 => by
    rw [sq_nx]
    simp only [lev, levs, xSome, xInt, xBl, xLst, xTup, xScr, xDic, xObj, xVal, xPLst, xPMat, xPDic, xSlot, xSlotI, xFld, xOb, xNewFld, xR1, xR2, xR3, xR4, xK1, xK2, xN1, xN2, xN3, xN4, xN5, xN6, xT1, xT2, xC1, xC2, xC3, xC4, xC5, xC6, xC7, xC8, xC9, xC10, xB1, xB2, xB3, xB4, xB5, xB6, xB7, xI1, xI2, xI3, xL1, xL2, xL3, xL4, xL5, xL6, xSc, xFr, xZZ, xYY, xPar, sq_rt, sq_ex, sq_xk, nx_xk, xXk, sSkip, sSeq, sFrz, sAsg, sAsgL, sAsgD, sAsgM, sSetIx, sSetIx2, sSetAt, sSetAtL, sSetAtD, sSetAtM, sSetF, sSetF2, sExpr, sApp, sRev, sClr, sAppT, sClrT, sIf, sRet, sRetN, sRaise, D.nc, D.ncs, Wd.put_same, Wd.put_put, gS0, gS1, aA0, aA1, aA2, xS1, xS2, xS3, xS4, xS5, xS6, xS7, B.b, bd_sides, B.at i, isNon_sd]
    refine ⟨fun z => ?_, fun z => ?_⟩
    · exact dex (q3 i i8 (by simpa using z))
    · rw [sq_nx]
      obtain ⟨a0, a1⟩ := inr_iff.mp i
      have hl := B.len
      simp only [lev, levs, xSome, xInt, xBl, xLst, xTup, xScr, xDic, xObj, xVal, xPLst, xPMat, xPDic, xSlot, xSlotI, xFld, xOb, xNewFld, xR1, xR2, xR3, xR4, xK1, xK2, xN1, xN2, xN3, xN4, xN5, xN6, xT1, xT2, xC1, xC2, xC3, xC4, xC5, xC6, xC7, xC8, xC9, xC10, xB1, xB2, xB3, xB4, xB5, xB6, xB7, xI1, xI2, xI3, xL1, xL2, xL3, xL4, xL5, xL6, xSc, xFr, xZZ, xYY, xPar, sq_rt, sq_ex, sq_xk, nx_xk, xXk, sSkip, sSeq, sFrz, sAsg, sAsgL, sAsgD, sAsgM, sSetIx, sSetIx2, sSetAt, sSetAtL, sSetAtD, sSetAtM, sSetF, sSetF2, sExpr, sApp, sRev, sClr, sAppT, sClrT, sIf, sRet, sRetN, sRaise, D.nc, D.ncs, Wd.put_same, Wd.put_put, gS0, gS1, aA0, aA1, aA2, xS1, xS2, xS3, xS4, xS5, xS6, xS7, B.b, bd_sides, List.length_map]
      refine ⟨trivial, a0, by omega, ?_⟩
      rw [show (s.map sdD).set a.toNat (.int v) = (s.set a.toNat (some v)).map sdD by rw [List.map_set]; rfl, bd_fput]
      exact dnx (q4 i i8 (by simpa using z))
  refine ⟨fun z => ⟨fun z2 => ?_, fun z2 => ?_⟩, fun z => ⟨fun _ => ?_, fun z2 => by simp at z2⟩⟩
  · exact dex (q2 i (by rw [e8, z]; simpa using z2))
  · exact fin (by rw [e8, z]; simpa using z2)
  · exact dex (q2 i (by rw [e8, z]; rfl))
theorem ok_8 (Phi : Nat → LSp) (h1 : Phi 1 = S_known) : LOk Phi b_8 2 0 S_lift := by
  rintro ds w Q E ⟨p, m, n, M, s, a, rfl, B, q1, q2, q3⟩
  refine ⟨rfl, ?_⟩
  simp only [b_8, lev, levs, xSome, xInt, xBl, xLst, xTup, xScr, xDic, xObj, xVal, xPLst, xPMat, xPDic, xSlot, xSlotI, xFld, xOb, xNewFld, xR1, xR2, xR3, xR4, xK1, xK2, xN1, xN2, xN3, xN4, xN5, xN6, xT1, xT2, xC1, xC2, xC3, xC4, xC5, xC6, xC7, xC8, xC9, xC10, xB1, xB2, xB3, xB4, xB5, xB6, xB7, xI1, xI2, xI3, xL1, xL2, xL3, xL4, xL5, xL6, xSc, xFr, xZZ, xYY, xPar, sq_rt, sq_ex, sq_xk, nx_xk, xXk, sSkip, sSeq, sFrz, sAsg, sAsgL, sAsgD, sAsgM, sSetIx, sSetIx2, sSetAt, sSetAtL, sSetAtD, sSetAtM, sSetF, sSetF2, sExpr, sApp, sRev, sClr, sAppT, sClrT, sIf, sRet, sRetN, sRaise, D.nc, D.ncs, Wd.put_same, Wd.put_put, gS0, gS1, aA0, aA1, aA2, xS1, xS2, xS3, xS4, xS5, xS6, xS7, B.b, bd_chart, B.m, mapC, h1, List.map_cons, List.map_nil, List.cons_append, List.nil_append, List.replicate]
  refine ⟨trivial, known_use B.m (fun i => ?_) fun i => dxk (q1 i)⟩
  rw [sq_nx]
  simp only [lev, levs, xSome, xInt, xBl, xLst, xTup, xScr, xDic, xObj, xVal, xPLst, xPMat, xPDic, xSlot, xSlotI, xFld, xOb, xNewFld, xR1, xR2, xR3, xR4, xK1, xK2, xN1, xN2, xN3, xN4, xN5, xN6, xT1, xT2, xC1, xC2, xC3, xC4, xC5, xC6, xC7, xC8, xC9, xC10, xB1, xB2, xB3, xB4, xB5, xB6, xB7, xI1, xI2, xI3, xL1, xL2, xL3, xL4, xL5, xL6, xSc, xFr, xZZ, xYY, xPar, sq_rt, sq_ex, sq_xk, nx_xk, xXk, sSkip, sSeq, sFrz, sAsg, sAsgL, sAsgD, sAsgM, sSetIx, sSetIx2, sSetAt, sSetAtL, sSetAtD, sSetAtM, sSetF, sSetF2, sExpr, sApp, sRev, sClr, sAppT, sClrT, sIf, sRet, sRetN, sRaise, D.nc, D.ncs, Wd.put_same, Wd.put_put, gS0, gS1, aA0, aA1, aA2, xS1, xS2, xS3, xS4, xS5, xS6, xS7, B.b, bd_sides, B.at i, isNon_sd]
  refine ⟨fun z => ?_, fun z => ?_⟩
  · exact dex (q2 i (by simpa using z))
  · rw [sq_nx]
    obtain ⟨a0, a1⟩ := inr_iff.mp i
    have hl := B.len
    simp only [lev, levs, xSome, xInt, xBl, xLst, xTup, xScr, xDic, xObj, xVal, xPLst, xPMat, xPDic, xSlot, xSlotI, xFld, xOb, xNewFld, xR1, xR2, xR3, xR4, xK1, xK2, xN1, xN2, xN3, xN4, xN5, xN6, xT1, xT2, xC1, xC2, xC3, xC4, xC5, xC6, xC7, xC8, xC9, xC10, xB1, xB2, xB3, xB4, xB5, xB6, xB7, xI1, xI2, xI3, xL1, xL2, xL3, xL4, xL5, xL6, xSc, xFr, xZZ, xYY, xPar, sq_rt, sq_ex, sq_xk, nx_xk, xXk, sSkip, sSeq, sFrz, sAsg, sAsgL, sAsgD, sAsgM, sSetIx, sSetIx2, sSetAt, sSetAtL, sSetAtD, sSetAtM, sSetF, sSetF2, sExpr, sApp, sRev, sClr, sAppT, sClrT, sIf, sRet, sRetN, sRaise, D.nc, D.ncs, Wd.put_same, Wd.put_put, gS0, gS1, aA0, aA1, aA2, xS1, xS2, xS3, xS4, xS5, xS6, xS7, B.b, bd_sides, List.length_map]
    refine ⟨trivial, a0, by omega, ?_⟩
    rw [show (s.map sdD).set a.toNat .non = (s.set a.toNat none).map sdD by rw [List.map_set]; rfl, bd_fput]
    exact dnx (q3 i (by simpa using z))
theorem ok_9 (Phi : Nat → LSp) : LOk Phi b_9 1 1 S_roll := by
  rintro ds w Q E ⟨p, m, n, M, s, rfl, B, q⟩
  refine ⟨rfl, ?_⟩
  have n0 := B.wf.n0
  have n1 := B.wf.n1
  simp only [b_9, lev, levs, xSome, xInt, xBl, xLst, xTup, xScr, xDic, xObj, xVal, xPLst, xPMat, xPDic, xSlot, xSlotI, xFld, xOb, xNewFld, xR1, xR2, xR3, xR4, xK1, xK2, xN1, xN2, xN3, xN4, xN5, xN6, xT1, xT2, xC1, xC2, xC3, xC4, xC5, xC6, xC7, xC8, xC9, xC10, xB1, xB2, xB3, xB4, xB5, xB6, xB7, xI1, xI2, xI3, xL1, xL2, xL3, xL4, xL5, xL6, xSc, xFr, xZZ, xYY, xPar, sq_rt, sq_ex, sq_xk, nx_xk, xXk, sSkip, sSeq, sFrz, sAsg, sAsgL, sAsgD, sAsgM, sSetIx, sSetIx2, sSetAt, sSetAtL, sSetAtD, sSetAtM, sSetF, sSetF2, sExpr, sApp, sRev, sClr, sAppT, sClrT, sIf, sRet, sRetN, sRaise, D.nc, D.ncs, Wd.put_same, Wd.put_put, gS0, gS1, aA0, aA1, aA2, xS1, xS2, xS3, xS4, xS5, xS6, xS7, B.b, bd_chart, B.m, map_fgetS, List.map_cons, List.map_nil, List.cons_append, List.nil_append, List.replicate]
  refine ⟨by intro pc e; simp at e, by omega, by omega, compI (rollI s) ?_ (fun d hd i => ?_) ?_⟩
  · simp [top]; omega
  · obtain ⟨k, hk, rfl⟩ := List.mem_map.mp hd
    have hk : k < n.toNat := by simpa using hk
    have j : inr n (k : Int) = true := inr_iff.mpr ⟨by omega, by omega⟩
    simp only [lev, levs, xSome, xInt, xBl, xLst, xTup, xScr, xDic, xObj, xVal, xPLst, xPMat, xPDic, xSlot, xSlotI, xFld, xOb, xNewFld, xR1, xR2, xR3, xR4, xK1, xK2, xN1, xN2, xN3, xN4, xN5, xN6, xT1, xT2, xC1, xC2, xC3, xC4, xC5, xC6, xC7, xC8, xC9, xC10, xB1, xB2, xB3, xB4, xB5, xB6, xB7, xI1, xI2, xI3, xL1, xL2, xL3, xL4, xL5, xL6, xSc, xFr, xZZ, xYY, xPar, sq_rt, sq_ex, sq_xk, nx_xk, xXk, sSkip, sSeq, sFrz, sAsg, sAsgL, sAsgD, sAsgM, sSetIx, sSetIx2, sSetAt, sSetAtL, sSetAtD, sSetAtM, sSetF, sSetF2, sExpr, sApp, sRev, sClr, sAppT, sClrT, sIf, sRet, sRetN, sRaise, D.nc, D.ncs, Wd.put_same, Wd.put_put, gS0, gS1, aA0, aA1, aA2, xS1, xS2, xS3, xS4, xS5, xS6, xS7, List.set, B.b, bd_sides, B.at j, isNon_sd]
    refine ⟨trivial, fun z => ?_, fun z => ?_⟩
    · cases hs : sideAt s (k : Int) with
      | none => rw [hs] at z; simp at z
      | some v =>
        refine ⟨by simp, trivial, by simp [R.zz], by simp [R.yy], ?_⟩
        show (sideAt s (k : Int)).map _ = _
        rw [hs]; rfl
    · have hs : sideAt s (k : Int) = none := by simpa using z
      show (sideAt s (k : Int)).map _ = _
      rw [hs]; rfl
  · refine drt rfl ?_
    rw [rollI_all s B.len]
    exact q
theorem ok_7 (Phi : Nat → LSp) (h1 : Phi 1 = S_known) : LOk Phi b_7 2 0 S_side := by
  rintro ds w Q E ⟨p, m, n, M, s, a, rfl, B, q1, q2⟩
  refine ⟨rfl, ?_⟩
  simp only [b_7, lev, levs, xSome, xInt, xBl, xLst, xTup, xScr, xDic, xObj, xVal, xPLst, xPMat, xPDic, xSlot, xSlotI, xFld, xOb, xNewFld, xR1, xR2, xR3, xR4, xK1, xK2, xN1, xN2, xN3, xN4, xN5, xN6, xT1, xT2, xC1, xC2, xC3, xC4, xC5, xC6, xC7, xC8, xC9, xC10, xB1, xB2, xB3, xB4, xB5, xB6, xB7, xI1, xI2, xI3, xL1, xL2, xL3, xL4, xL5, xL6, xSc, xFr, xZZ, xYY, xPar, sq_rt, sq_ex, sq_xk, nx_xk, xXk, sSkip, sSeq, sFrz, sAsg, sAsgL, sAsgD, sAsgM, sSetIx, sSetIx2, sSetAt, sSetAtL, sSetAtD, sSetAtM, sSetF, sSetF2, sExpr, sApp, sRev, sClr, sAppT, sClrT, sIf, sRet, sRetN, sRaise, D.nc, D.ncs, Wd.put_same, Wd.put_put, gS0, gS1, aA0, aA1, aA2, xS1, xS2, xS3, xS4, xS5, xS6, xS7, B.b, bd_chart, B.m, mapC, h1, List.map_cons, List.map_nil, List.cons_append, List.nil_append, List.replicate]
  refine ⟨trivial, known_use B.m (fun i => ?_) fun i => dxk (q1 i)⟩
  rw [sq_nx]
  simp only [lev, levs, xSome, xInt, xBl, xLst, xTup, xScr, xDic, xObj, xVal, xPLst, xPMat, xPDic, xSlot, xSlotI, xFld, xOb, xNewFld, xR1, xR2, xR3, xR4, xK1, xK2, xN1, xN2, xN3, xN4, xN5, xN6, xT1, xT2, xC1, xC2, xC3, xC4, xC5, xC6, xC7, xC8, xC9, xC10, xB1, xB2, xB3, xB4, xB5, xB6, xB7, xI1, xI2, xI3, xL1, xL2, xL3, xL4, xL5, xL6, xSc, xFr, xZZ, xYY, xPar, sq_rt, sq_ex, sq_xk, nx_xk, xXk, sSkip, sSeq, sFrz, sAsg, sAsgL, sAsgD, sAsgM, sSetIx, sSetIx2, sSetAt, sSetAtL, sSetAtD, sSetAtM, sSetF, sSetF2, sExpr, sApp, sRev, sClr, sAppT, sClrT, sIf, sRet, sRetN, sRaise, D.nc, D.ncs, Wd.put_same, Wd.put_put, gS0, gS1, aA0, aA1, aA2, xS1, xS2, xS3, xS4, xS5, xS6, xS7, B.b, bd_sides, B.at i]
  exact drt (by simp [R.yy, nc_sd]) (q2 i)
end LL
end
section
set_option linter.all false
/-! LSuite: what the laws make of an error. -/
namespace LL
theorem xE {x y : Ex} : isiD (.exc x) (.ex y) = some (decide (x = y)) := rfl
theorem xV {x : Ex} : isiD (.exc x) .valueError = some true := rfl
def exL (x a b c d e : Ex) : List D := [.bl (decide (x = a)), .bl (decide (x = b)), .bl (decide (x = c)), .bl (decide (x = d)), .bl (decide (x = e)), .bl true]
def suiteM (i j : Nat) (a b c d e : Ex) : MS Nat := .seq (.asg i (.lst (.cons (.isi (.var j) (.ex a)) (.cons (.isi (.var j) (.ex b)) (.cons (.isi (.var j) (.ex c)) (.cons (.isi (.var j) (.ex d)) .nil)))))) (.asg i (.bin .add (.var i) (.lst (.cons (.isi (.var j) (.ex e)) (.cons (.isi (.var j) .valueError) .nil)))))
theorem suiteG {Phi : Nat → LSp} {i j : Nat} {a b c d e x : Ex} {env : Env} {w : Wd} {N : Env → Wd → Prop} (hj : env[j]? = some (some (.val (.exc x) true))) (hij : i ≠ j) (hi : i < env.length)
    (hx : Env.nox ((env.set i (some (.val (.lst (exL x a b c d e)) true))).set j none) = true) (h : N ((env.set i (some (.val (.lst (exL x a b c d e)) true))).set j none) w) :
    les Phi (suiteM i j a b c d e) ⟨fun e2 w2 => w2 = w ∧ Env.nox (e2.set j none) = true ∧ N (e2.set j none) w2, fun _ _ => False, fun _ _ _ => False⟩ env w := by
  unfold suiteM
  rw [sSeq, sAsg]
  simp only [lev, levs, xSlot, xSlotI, hj, xSome, xR1, xE, xV]
  refine ⟨by simp, by rfl, ?_⟩
  rw [sq_nx, sAsg]
  have hj' : ∀ v, (env.set i v)[j]? = some (some (.val (.exc x) true)) := fun v => by rw [List.getElem?_set_ne hij]; exact hj
  have hi' : ∀ v, (env.set i v)[i]? = some v := fun v => List.getElem?_set_self hi
  simp only [lev, levs, xSlot, xSlotI, hj', hi', xSome, xR1, xE, xV]
  refine ⟨by simp, ?_⟩
  simp only [xSc, List.map_cons, List.map_nil, xB2]
  refine ⟨by simp [top], by rfl, by rfl, by rfl, trivial, ?_, ?_⟩
  · rw [List.set_set]; exact hx
  · rw [List.set_set]; exact h
end LL
end
section
set_option linter.all false
namespace LL
def b_k03_41 : MS Nat := (.seq (.ifS (.cmp .lt (.var 1) (.blt .len (.cons (.var 0) .nil))) (.ret (.idx (.var 0) (.var 1))) .skip) (.ret (.cst (.int 0))))
def b_k03_43 : MS Nat := (.seq (.asg 3 (.cst (.int 0))) (.seq (.tryE (.ifS (.isN (.var 2)) (.expr (.meth .board 8 (.var 0) (.cons (.var 1) .nil))) (.expr (.meth .board 6 (.var 0) (.cons (.var 1) (.cons (.var 2) .nil))))) 4 (.seq (.asg 3 (.lst (.cons (.isi (.var 4) (.ex .noPlace)) (.cons (.isi (.var 4) (.ex .noSide)) (.cons (.isi (.var 4) (.ex .crowded)) (.cons (.isi (.var 4) (.ex .noUnit)) .nil)))))) (.asg 3 (.bin .add (.var 3) (.lst (.cons (.isi (.var 4) (.ex .outOfReach)) (.cons (.isi (.var 4) .valueError) .nil))))))) (.ret (.var 3))))
def b_k03_44_4 : MS Nat := (.ret (.cst (.int 0)))
def b_k03_44_3 : MS Nat := (.seq (.ifS (.and (.notN (.var 2)) (.notN (.idx (.var 0) (.var 1)))) (.ret (.lst (.cons (.cst (.bl false)) (.cons (.cst (.bl false)) (.cons (.cst (.bl true)) (.cons (.cst (.bl false)) (.cons (.cst (.bl false)) (.cons (.cst (.bl true)) .nil)))))))) .skip) b_k03_44_4)
def b_k03_44_2 : MS Nat := (.seq (.ifS (.and (.notN (.var 2)) (.not (.chain .le .le (.cst (.int 0)) (.var 2) (.cst (.int 7))))) (.ret (.lst (.cons (.cst (.bl false)) (.cons (.cst (.bl true)) (.cons (.cst (.bl false)) (.cons (.cst (.bl false)) (.cons (.cst (.bl false)) (.cons (.cst (.bl true)) .nil)))))))) .skip) b_k03_44_3)
def b_k03_44_1 : MS Nat := (.seq (.ifS (.and (.isN (.var 2)) (.isN (.idx (.var 0) (.var 1)))) (.ret (.lst (.cons (.cst (.bl false)) (.cons (.cst (.bl false)) (.cons (.cst (.bl false)) (.cons (.cst (.bl true)) (.cons (.cst (.bl false)) (.cons (.cst (.bl true)) .nil)))))))) .skip) b_k03_44_2)
def b_k03_44 : MS Nat := (.seq (.ifS (.not (.chain .le .lt (.cst (.int 0)) (.var 1) (.blt .len (.cons (.var 0) .nil)))) (.ret (.lst (.cons (.cst (.bl true)) (.cons (.cst (.bl false)) (.cons (.cst (.bl false)) (.cons (.cst (.bl false)) (.cons (.cst (.bl false)) (.cons (.cst (.bl true)) .nil)))))))) .skip) b_k03_44_1)
def b_k03_42 : MS Nat := (.ret (.and (.isi (.var 0) .int) (.not (.isi (.var 0) .bool))))
def b_k03_45_3 : MS Nat := (.ret (.cst (.bl true)))
def b_k03_45_2 : MS Nat := (.seq (.forR 3 (.cst (.int 0)) (.blt .len (.cons (.var 2) .nil)) (.seq (.ifS (.or (.not (.isi (.idx (.var 0) (.var 3)) .tuple)) (.cmp .ne (.blt .len (.cons (.idx (.var 0) (.var 3)) .nil)) (.cst (.int 2)))) (.ret (.cst (.bl false))) .skip) (.ifS (.or (.not (.call 42 (.cons (.idx (.idx (.var 0) (.var 3)) (.cst (.int 0))) .nil))) (.or (.not (.call 42 (.cons (.idx (.idx (.var 0) (.var 3)) (.cst (.int 1))) .nil))) (.cmp .ne (.idx (.var 0) (.var 3)) (.idx (.var 2) (.var 3))))) (.ret (.cst (.bl false))) .skip))) b_k03_45_3)
def b_k03_45_1 : MS Nat := (.seq (.ifS (.or (.not (.isi (.var 0) .list)) (.cmp .ne (.blt .len (.cons (.var 0) .nil)) (.blt .len (.cons (.var 2) .nil)))) (.ret (.cst (.bl false))) .skip) b_k03_45_2)
def b_k03_45 : MS Nat := (.seq (.asg 2 (.compR (.tup (.cons (.var 3) (.cons (.idx (.var 1) (.var 3)) .nil))) 3 (.blt .len (.cons (.var 1) .nil)) (.notN (.idx (.var 1) (.var 3))))) b_k03_45_1)
def b_k03_46_7 : MS Nat := (.ret (.and (.cmp .eq (.attr (.attr (.var 3) .chart) .size) (.var 1)) (.call 45 (.cons (.meth .board 9 (.var 3) .nil) (.cons (.var 4) .nil)))))
def b_k03_46_6 : MS Nat := (.seq (.clrT (.meth .board 9 (.var 3) .nil)) b_k03_46_7)
def b_k03_46_5 : MS Nat := (.seq (.forL 5 (.upTo (.var 0) 30) (.seq (.asg 6 (.bin .sub (.bin .mod (.bin .fdiv (.var 5) (.cst (.int 3))) (.bin .add (.var 1) (.cst (.int 4)))) (.cst (.int 2)))) (.seq (.asg 7 (.bin .sub (.bin .mod (.bin .fdiv (.var 5) (.cst (.int 200))) (.cst (.int 12))) (.cst (.int 2)))) (.seq (.ifS (.cmp .eq (.bin .mod (.var 5) (.cst (.int 3))) (.cst (.int 0))) (.asg 7 (.cst .non)) .skip) (.seq (.asg 8 (.call 44 (.cons (.var 4) (.cons (.var 6) (.cons (.var 7) .nil))))) (.seq (.ifS (.cmp .ne (.call 43 (.cons (.var 3) (.cons (.var 6) (.cons (.var 7) .nil)))) (.var 8)) (.ret (.cst (.bl false))) .skip) (.seq (.ifS (.cmp .eq (.var 8) (.cst (.int 0))) (.setIx 4 (.var 6) (.var 7)) .skip) (.seq (.ifS (.not (.call 45 (.cons (.meth .board 9 (.var 3) .nil) (.cons (.var 4) .nil)))) (.ret (.cst (.bl false))) .skip) (.ifS (.and (.chain .le .lt (.cst (.int 0)) (.var 6) (.var 1)) (.cmp .ne (.meth .board 7 (.var 3) (.cons (.var 6) .nil)) (.idx (.var 4) (.var 6)))) (.ret (.cst (.bl false))) .skip))))))))) b_k03_46_6)
def b_k03_46_4 : MS Nat := (.seq (.asgL 4 (.bin .mul (.lst (.cons (.cst .non) .nil)) (.var 1))) b_k03_46_5)
def b_k03_46_3 : MS Nat := (.seq (.asg 3 (.new .board 5 (.cons (.var 2) .nil))) b_k03_46_4)
def b_k03_46_2 : MS Nat := (.seq (.asg 2 (.new .map 0 (.cons (.var 1) .nil))) b_k03_46_3)
def b_k03_46_1 : MS Nat := (.seq (.ifS (.cmp .eq (.bin .mod (.call 41 (.cons (.var 0) (.cons (.cst (.int 0)) .nil))) (.cst (.int 2))) (.cst (.int 1))) (.asg 1 (.bin .add (.cst (.int 1)) (.bin .mod (.bin .fdiv (.call 41 (.cons (.var 0) (.cons (.cst (.int 0)) .nil))) (.cst (.int 2))) (.cst (.int 60))))) .skip) b_k03_46_2)
def b_k03_46 : MS Nat := (.seq (.asg 1 (.bin .add (.cst (.int 1)) (.bin .mod (.bin .fdiv (.call 41 (.cons (.var 0) (.cons (.cst (.int 0)) .nil))) (.cst (.int 2))) (.cst (.int 5))))) b_k03_46_1)
end LL
end
section
set_option linter.all false
set_option maxRecDepth 100000
/-! LA_k03 -/
namespace LL
def dueX (n : Int) (s : Sd) (a : Int) (v : Option Int) : Option Ex :=
  if inr n a = false then some .noPlace else match v with
    | none => if sideAt s a = none then some .noUnit else none
    | some x => if inr 8 x = false then some .noSide else if sideAt s a = none then none else some .crowded
def resX : Option Ex → D
  | some x => .lst (exL x .noPlace .noSide .crowded .noUnit .outOfReach)
  | none => .int 0
def aftX (w : Wd) (p m : Nat) (s : Sd) (a : Int) (v : Option Int) : Option Ex → Wd
  | some _ => w
  | none => w.put p (boardOb m (s.set a.toNat v))
def S_ldone : LSp := fun ds w Q E => ∃ p m n M s a v, ds = [.obj p, .int a, sdD v] ∧ Bd w p m n M s ∧ Q (resX (dueX n s a v)) (aftX w p m s a v (dueX n s a v))
def S_ldue : LSp := fun ds w Q E => ∃ s a v, ds = [.lst (s.map sdD), .int a, sdD v] ∧ Q (resX (dueX s.length s a v)) w
def S_lroll : LSp := fun ds w Q E => ∃ s, ds = [.lst ((rollP s).map pairD), .lst (s.map sdD)] ∧ s.length ≤ 1000 ∧ Q (.bl true) w
theorem sd_toR {o : Option Int} {y : Bool} : (PC.val (sdD o) y).toR = ⟨sdD o, true, y, false⟩ := rfl
theorem ok_k03_43' {Phi : Nat → LSp} (h1 : Phi 6 = S_post) (h2 : Phi 8 = S_lift) : LOk Phi b_k03_43 3 2 S_ldone := by
  rintro ds w Q E ⟨p, m, n, M, s, a, v, rfl, B, q⟩
  refine ⟨rfl, ?_⟩
  simp only [b_k03_43, lev, levs, xSome, xInt, xBl, xLst, xTup, xScr, xDic, xObj, xVal, xPLst, xPMat, xPDic, xSlot, xSlotI, xFld, xOb, xNewFld, xR1, xR2, xR3, xR4, xK1, xK2, xN1, xN2, xN3, xN4, xN5, xN6, xT1, xT2, xC1, xC2, xC3, xC4, xC5, xC6, xC7, xC8, xC9, xC10, xB1, xB2, xB3, xB4, xB5, xB6, xB7, xI1, xI2, xI3, xL1, xL2, xL3, xL4, xL5, xL6, xSc, xFr, xZZ, xYY, xPar, sq_rt, sq_ex, sq_xk, nx_xk, xXk, sSkip, sSeq, sFrz, sAsg, sAsgL, sAsgD, sAsgM, sSetIx, sSetIx2, sSetAt, sSetAtL, sSetAtD, sSetAtM, sSetF, sSetF2, sExpr, sApp, sRev, sClr, sAppT, sClrT, sIf, sRet, sRetN, sRaise, D.nc, D.ncs, Wd.put_same, Wd.put_put, gS0, gS1, aA0, aA1, aA2, xS1, xS2, xS3, xS4, xS5, xS6, xS7, List.map_cons, List.map_nil, List.cons_append, List.nil_append, List.replicate]
  refine ⟨by rfl, ?_⟩
  rw [sq_nx, sSeq, sTry]
  have bad : ∀ x, dueX n s a v = some x → les Phi (suiteM 3 4 .noPlace .noSide .crowded .noUnit .outOfReach) ⟨fun e2 w2 => w2 = w ∧ Env.nox (e2.set 4 none) = true ∧ (Ends.sq Phi (.ret (.var 3)) (defEnds Q E)).nx (e2.set 4 none) w2, fun _ _ => False, fun _ _ _ => False⟩
      [some (.val (.obj p) false), some (.val (.int a) false), some (.val (sdD v) false), some (.val (.int 0) true), some (.val (.exc x) true)] w := fun x hx => by
    refine suiteG rfl (by decide) (by show 3 < 5; decide) ?_ ?_
    · cases v <;> rfl
    · rw [sq_nx]
      simp only [List.set, lev, levs, xSome, xInt, xBl, xLst, xTup, xScr, xDic, xObj, xVal, xPLst, xPMat, xPDic, xSlot, xSlotI, xFld, xOb, xNewFld, xR1, xR2, xR3, xR4, xK1, xK2, xN1, xN2, xN3, xN4, xN5, xN6, xT1, xT2, xC1, xC2, xC3, xC4, xC5, xC6, xC7, xC8, xC9, xC10, xB1, xB2, xB3, xB4, xB5, xB6, xB7, xI1, xI2, xI3, xL1, xL2, xL3, xL4, xL5, xL6, xSc, xFr, xZZ, xYY, xPar, sq_rt, sq_ex, sq_xk, nx_xk, xXk, sSkip, sSeq, sFrz, sAsg, sAsgL, sAsgD, sAsgM, sSetIx, sSetIx2, sSetAt, sSetAtL, sSetAtD, sSetAtM, sSetF, sSetF2, sExpr, sApp, sRev, sClr, sAppT, sClrT, sIf, sRet, sRetN, sRaise, D.nc, D.ncs, Wd.put_same, Wd.put_put, gS0, gS1, aA0, aA1, aA2, xS1, xS2, xS3, xS4, xS5, xS6, xS7]
      refine drt rfl ?_
      rw [hx] at q
      exact q
  cases v with
  | none =>
    simp only [sdD, lev, levs, xSome, xInt, xBl, xLst, xTup, xScr, xDic, xObj, xVal, xPLst, xPMat, xPDic, xSlot, xSlotI, xFld, xOb, xNewFld, xR1, xR2, xR3, xR4, xK1, xK2, xN1, xN2, xN3, xN4, xN5, xN6, xT1, xT2, xC1, xC2, xC3, xC4, xC5, xC6, xC7, xC8, xC9, xC10, xB1, xB2, xB3, xB4, xB5, xB6, xB7, xI1, xI2, xI3, xL1, xL2, xL3, xL4, xL5, xL6, xSc, xFr, xZZ, xYY, xPar, sq_rt, sq_ex, sq_xk, nx_xk, xXk, sSkip, sSeq, sFrz, sAsg, sAsgL, sAsgD, sAsgM, sSetIx, sSetIx2, sSetAt, sSetAtL, sSetAtD, sSetAtM, sSetF, sSetF2, sExpr, sApp, sRev, sClr, sAppT, sClrT, sIf, sRet, sRetN, sRaise, D.nc, D.ncs, Wd.put_same, Wd.put_put, gS0, gS1, aA0, aA1, aA2, xS1, xS2, xS3, xS4, xS5, xS6, xS7, B.b, bdC, h1, h2, List.set]
    refine ⟨fun _ => ?_, fun z => by simp at z⟩
    refine ⟨trivial, p, m, n, M, s, a, rfl, B, fun i => ?_, fun i j => ?_, fun i j => ?_⟩
    · exact bad .noPlace (by simp [dueX, i])
    · exact bad .noUnit (by simp [dueX, i, j])
    · show (Ends.sq Phi _ _).nx _ _
      rw [sq_nx]
      simp only [lev, levs, xSome, xInt, xBl, xLst, xTup, xScr, xDic, xObj, xVal, xPLst, xPMat, xPDic, xSlot, xSlotI, xFld, xOb, xNewFld, xR1, xR2, xR3, xR4, xK1, xK2, xN1, xN2, xN3, xN4, xN5, xN6, xT1, xT2, xC1, xC2, xC3, xC4, xC5, xC6, xC7, xC8, xC9, xC10, xB1, xB2, xB3, xB4, xB5, xB6, xB7, xI1, xI2, xI3, xL1, xL2, xL3, xL4, xL5, xL6, xSc, xFr, xZZ, xYY, xPar, sq_rt, sq_ex, sq_xk, nx_xk, xXk, sSkip, sSeq, sFrz, sAsg, sAsgL, sAsgD, sAsgM, sSetIx, sSetIx2, sSetAt, sSetAtL, sSetAtD, sSetAtM, sSetF, sSetF2, sExpr, sApp, sRev, sClr, sAppT, sClrT, sIf, sRet, sRetN, sRaise, D.nc, D.ncs, Wd.put_same, Wd.put_put, gS0, gS1, aA0, aA1, aA2, xS1, xS2, xS3, xS4, xS5, xS6, xS7]
      refine drt rfl ?_
      have e : dueX n s a none = none := by simp [dueX, i, j]
      rw [e] at q
      exact q
  | some x =>
    simp only [sdD, lev, levs, xSome, xInt, xBl, xLst, xTup, xScr, xDic, xObj, xVal, xPLst, xPMat, xPDic, xSlot, xSlotI, xFld, xOb, xNewFld, xR1, xR2, xR3, xR4, xK1, xK2, xN1, xN2, xN3, xN4, xN5, xN6, xT1, xT2, xC1, xC2, xC3, xC4, xC5, xC6, xC7, xC8, xC9, xC10, xB1, xB2, xB3, xB4, xB5, xB6, xB7, xI1, xI2, xI3, xL1, xL2, xL3, xL4, xL5, xL6, xSc, xFr, xZZ, xYY, xPar, sq_rt, sq_ex, sq_xk, nx_xk, xXk, sSkip, sSeq, sFrz, sAsg, sAsgL, sAsgD, sAsgM, sSetIx, sSetIx2, sSetAt, sSetAtL, sSetAtD, sSetAtM, sSetF, sSetF2, sExpr, sApp, sRev, sClr, sAppT, sClrT, sIf, sRet, sRetN, sRaise, D.nc, D.ncs, Wd.put_same, Wd.put_put, gS0, gS1, aA0, aA1, aA2, xS1, xS2, xS3, xS4, xS5, xS6, xS7, B.b, bdC, h1, h2, List.set]
    refine ⟨fun z => by simp at z, fun _ => ?_⟩
    refine ⟨trivial, p, m, n, M, s, a, x, rfl, B, fun i => ?_, fun i j => ?_, fun i j k => ?_, fun i j k => ?_⟩
    · exact bad .noPlace (by simp [dueX, i])
    · exact bad .noSide (by simp [dueX, i, j])
    · exact bad .crowded (by simp [dueX, i, j, k])
    · show (Ends.sq Phi _ _).nx _ _
      rw [sq_nx]
      simp only [lev, levs, xSome, xInt, xBl, xLst, xTup, xScr, xDic, xObj, xVal, xPLst, xPMat, xPDic, xSlot, xSlotI, xFld, xOb, xNewFld, xR1, xR2, xR3, xR4, xK1, xK2, xN1, xN2, xN3, xN4, xN5, xN6, xT1, xT2, xC1, xC2, xC3, xC4, xC5, xC6, xC7, xC8, xC9, xC10, xB1, xB2, xB3, xB4, xB5, xB6, xB7, xI1, xI2, xI3, xL1, xL2, xL3, xL4, xL5, xL6, xSc, xFr, xZZ, xYY, xPar, sq_rt, sq_ex, sq_xk, nx_xk, xXk, sSkip, sSeq, sFrz, sAsg, sAsgL, sAsgD, sAsgM, sSetIx, sSetIx2, sSetAt, sSetAtL, sSetAtD, sSetAtM, sSetF, sSetF2, sExpr, sApp, sRev, sClr, sAppT, sClrT, sIf, sRet, sRetN, sRaise, D.nc, D.ncs, Wd.put_same, Wd.put_put, gS0, gS1, aA0, aA1, aA2, xS1, xS2, xS3, xS4, xS5, xS6, xS7]
      refine drt rfl ?_
      have e : dueX n s a (some x) = none := by simp [dueX, i, j, k]
      rw [e] at q
      exact q
theorem pl_res (x : Option Ex) : (resX x).pl = true := by cases x <;> rfl
theorem at_side {s : Sd} {a : Int} (i : inr s.length a = true) : at0 (s.map sdD) a = some (sdD (sideAt s a)) := by
  obtain ⟨a0, a1⟩ := inr_iff.mp i
  have hl : a.toNat < s.length := by omega
  rw [at0_of a0, List.getElem?_map, sideAt, List.getElem?_eq_getElem hl]; rfl
/-- 0 ≤ a < len of a list in a slot -/
theorem levInL {Phi : Nat → LSp} {env : Env} {w : Wd} {V : VK} {Ek : XKd} {i j : Nat} {a : Int} {ds : List D} {y y' : Bool} (hi : env[i]? = some (some (.val (.int a) y))) (hj : env[j]? = some (some (.val (.lst ds) y'))) (h : V (sc (.bl (inr ds.length a))) w) :
    lev Phi (.chain .le .lt (.cst (.int 0)) (.var i) (.blt .len (.cons (.var j) .nil))) env w V Ek := by
  simp only [lev, levs, xSome, xInt, xBl, xLst, xTup, xScr, xDic, xObj, xVal, xPLst, xPMat, xPDic, xSlot, xSlotI, xFld, xOb, xNewFld, xR1, xR2, xR3, xR4, xK1, xK2, xN1, xN2, xN3, xN4, xN5, xN6, xT1, xT2, xC1, xC2, xC3, xC4, xC5, xC6, xC7, xC8, xC9, xC10, xB1, xB2, xB3, xB4, xB5, xB6, xB7, xI1, xI2, xI3, xL1, xL2, xL3, xL4, xL5, xL6, xSc, xFr, xZZ, xYY, xPar, sq_rt, sq_ex, sq_xk, nx_xk, xXk, sSkip, sSeq, sFrz, sAsg, sAsgL, sAsgD, sAsgM, sSetIx, sSetIx2, sSetAt, sSetAtL, sSetAtD, sSetAtM, sSetF, sSetF2, sExpr, sApp, sRev, sClr, sAppT, sClrT, sIf, sRet, sRetN, sRaise, D.nc, D.ncs, Wd.put_same, Wd.put_put, gS0, gS1, aA0, aA1, aA2, xS1, xS2, xS3, xS4, xS5, xS6, xS7, hi, hj, List.map_cons, List.map_nil]
  refine ⟨fun z => ?_, fun z => ?_⟩
  · have e : decide (a < (ds.length : Int)) = inr ds.length a := by simp [inr, of_decide_eq_true z]
    rw [e]; exact h
  · have e : inr ds.length a = false := by simp [inr, z]
    rw [e] at h; exact h
theorem lev07 {Phi : Nat → LSp} {env : Env} {w : Wd} {V : VK} {Ek : XKd} {i : Nat} {a : Int} {y : Bool} (hi : env[i]? = some (some (.val (.int a) y))) (h : V (sc (.bl (inr 8 a))) w) :
    lev Phi (.chain .le .le (.cst (.int 0)) (.var i) (.cst (.int 7))) env w V Ek := by
  have e8 : inr 8 a = (decide (0 ≤ a) && decide (a ≤ 7)) := by unfold inr; rw [Bool.eq_iff_iff]; simp; omega
  simp only [lev, levs, xSome, xInt, xBl, xLst, xTup, xScr, xDic, xObj, xVal, xPLst, xPMat, xPDic, xSlot, xSlotI, xFld, xOb, xNewFld, xR1, xR2, xR3, xR4, xK1, xK2, xN1, xN2, xN3, xN4, xN5, xN6, xT1, xT2, xC1, xC2, xC3, xC4, xC5, xC6, xC7, xC8, xC9, xC10, xB1, xB2, xB3, xB4, xB5, xB6, xB7, xI1, xI2, xI3, xL1, xL2, xL3, xL4, xL5, xL6, xSc, xFr, xZZ, xYY, xPar, sq_rt, sq_ex, sq_xk, nx_xk, xXk, sSkip, sSeq, sFrz, sAsg, sAsgL, sAsgD, sAsgM, sSetIx, sSetIx2, sSetAt, sSetAtL, sSetAtD, sSetAtM, sSetF, sSetF2, sExpr, sApp, sRev, sClr, sAppT, sClrT, sIf, sRet, sRetN, sRaise, D.nc, D.ncs, Wd.put_same, Wd.put_put, gS0, gS1, aA0, aA1, aA2, xS1, xS2, xS3, xS4, xS5, xS6, xS7, hi]
  refine ⟨fun z => ?_, fun z => ?_⟩
  · have e : decide (a ≤ 7) = inr 8 a := by rw [e8, z]; rfl
    rw [e]; exact h
  · have e : inr 8 a = false := by rw [e8, z]; rfl
    rw [e] at h; exact h
theorem ok_k03_44' {Phi : Nat → LSp} : LOk Phi b_k03_44 3 0 S_ldue := by
  rintro ds w Q E ⟨s, a, v, rfl, q⟩
  refine ⟨rfl, ?_⟩
  rw [b_k03_44, sSeq, sIf, vNot]
  refine levInL rfl rfl ?_
  simp only [xSc, xT1, xSome, List.length_map]
  cases i : inr s.length a with
  | false =>
    refine ⟨fun _ => ?_, fun z => by cases z⟩
    simp only [lev, levs, xSome, xInt, xBl, xLst, xTup, xScr, xDic, xObj, xVal, xPLst, xPMat, xPDic, xSlot, xSlotI, xFld, xOb, xNewFld, xR1, xR2, xR3, xR4, xK1, xK2, xN1, xN2, xN3, xN4, xN5, xN6, xT1, xT2, xC1, xC2, xC3, xC4, xC5, xC6, xC7, xC8, xC9, xC10, xB1, xB2, xB3, xB4, xB5, xB6, xB7, xI1, xI2, xI3, xL1, xL2, xL3, xL4, xL5, xL6, xSc, xFr, xZZ, xYY, xPar, sq_rt, sq_ex, sq_xk, nx_xk, xXk, sSkip, sSeq, sFrz, sAsg, sAsgL, sAsgD, sAsgM, sSetIx, sSetIx2, sSetAt, sSetAtL, sSetAtD, sSetAtM, sSetF, sSetF2, sExpr, sApp, sRev, sClr, sAppT, sClrT, sIf, sRet, sRetN, sRaise, D.nc, D.ncs, Wd.put_same, Wd.put_put, gS0, gS1, aA0, aA1, aA2, xS1, xS2, xS3, xS4, xS5, xS6, xS7]
    refine ⟨by simp, drt rfl ?_⟩
    have e : dueX s.length s a v = some .noPlace := by simp [dueX, i]
    rw [e] at q
    exact q
  | true =>
    refine ⟨fun z => (by cases z), fun _ => ?_⟩
    have lit : ∀ (b1 b2 b3 b4 b5 : Bool) (x : Ex), dueX s.length s a v = some x → exL x .noPlace .noSide .crowded .noUnit .outOfReach = [.bl b1, .bl b2, .bl b3, .bl b4, .bl b5, .bl true] → Q (.lst [.bl b1, .bl b2, .bl b3, .bl b4, .bl b5, .bl true]) w := fun b1 b2 b3 b4 b5 x h1 h2 => by
      rw [h1] at q
      rw [← h2]; exact q
    have t3 : (v ≠ none → sideAt s a ≠ none → dueX s.length s a v = some .crowded) → ((v = none ∨ sideAt s a = none) → dueX s.length s a v = none) → les Phi b_k03_44_3 (defEnds Q E) [some (.val (.lst (s.map sdD)) false), some (.val (.int a) false), some (.val (sdD v) false)] w := fun g1 g2 => by
      rw [b_k03_44_3]
      have e4 : dueX s.length s a v = none → (Ends.sq Phi b_k03_44_4 (defEnds Q E)).nx [some (.val (.lst (s.map sdD)) false), some (.val (.int a) false), some (.val (sdD v) false)] w := fun g => by
        rw [sq_nx, b_k03_44_4]
        simp only [lev, levs, xSome, xInt, xBl, xLst, xTup, xScr, xDic, xObj, xVal, xPLst, xPMat, xPDic, xSlot, xSlotI, xFld, xOb, xNewFld, xR1, xR2, xR3, xR4, xK1, xK2, xN1, xN2, xN3, xN4, xN5, xN6, xT1, xT2, xC1, xC2, xC3, xC4, xC5, xC6, xC7, xC8, xC9, xC10, xB1, xB2, xB3, xB4, xB5, xB6, xB7, xI1, xI2, xI3, xL1, xL2, xL3, xL4, xL5, xL6, xSc, xFr, xZZ, xYY, xPar, sq_rt, sq_ex, sq_xk, nx_xk, xXk, sSkip, sSeq, sFrz, sAsg, sAsgL, sAsgD, sAsgM, sSetIx, sSetIx2, sSetAt, sSetAtL, sSetAtD, sSetAtM, sSetF, sSetF2, sExpr, sApp, sRev, sClr, sAppT, sClrT, sIf, sRet, sRetN, sRaise, D.nc, D.ncs, Wd.put_same, Wd.put_put, gS0, gS1, aA0, aA1, aA2, xS1, xS2, xS3, xS4, xS5, xS6, xS7]
        refine drt rfl ?_
        rw [g] at q; exact q
      simp only [lev, levs, xSome, xInt, xBl, xLst, xTup, xScr, xDic, xObj, xVal, xPLst, xPMat, xPDic, xSlot, xSlotI, xFld, xOb, xNewFld, xR1, xR2, xR3, xR4, xK1, xK2, xN1, xN2, xN3, xN4, xN5, xN6, xT1, xT2, xC1, xC2, xC3, xC4, xC5, xC6, xC7, xC8, xC9, xC10, xB1, xB2, xB3, xB4, xB5, xB6, xB7, xI1, xI2, xI3, xL1, xL2, xL3, xL4, xL5, xL6, xSc, xFr, xZZ, xYY, xPar, sq_rt, sq_ex, sq_xk, nx_xk, xXk, sSkip, sSeq, sFrz, sAsg, sAsgL, sAsgD, sAsgM, sSetIx, sSetIx2, sSetAt, sSetAtL, sSetAtD, sSetAtM, sSetF, sSetF2, sExpr, sApp, sRev, sClr, sAppT, sClrT, sIf, sRet, sRetN, sRaise, D.nc, D.ncs, Wd.put_same, Wd.put_put, gS0, gS1, aA0, aA1, aA2, xS1, xS2, xS3, xS4, xS5, xS6, xS7, isNon_sd, at_side i]
      refine ⟨fun z => ⟨fun z2 => ⟨by simp, drt rfl ?_⟩, fun z2 => ?_⟩, fun z => ⟨fun z2 => (by cases z2), fun _ => ?_⟩⟩
      · exact lit _ _ _ _ _ _ (g1 (by simpa using z) (by simpa using z2)) rfl
      · exact e4 (g2 (.inr (by simpa using z2)))
      · exact e4 (g2 (.inl (by simpa using z)))
    have t2 : (v = none → sideAt s a ≠ none) → (Ends.sq Phi b_k03_44_2 (defEnds Q E)).nx [some (.val (.lst (s.map sdD)) false), some (.val (.int a) false), some (.val (sdD v) false)] w := fun g => by
      rw [sq_nx, b_k03_44_2, sSeq, sIf, vAnd]
      cases v with
      | none =>
        simp only [lev, levs, xSome, xInt, xBl, xLst, xTup, xScr, xDic, xObj, xVal, xPLst, xPMat, xPDic, xSlot, xSlotI, xFld, xOb, xNewFld, xR1, xR2, xR3, xR4, xK1, xK2, xN1, xN2, xN3, xN4, xN5, xN6, xT1, xT2, xC1, xC2, xC3, xC4, xC5, xC6, xC7, xC8, xC9, xC10, xB1, xB2, xB3, xB4, xB5, xB6, xB7, xI1, xI2, xI3, xL1, xL2, xL3, xL4, xL5, xL6, xSc, xFr, xZZ, xYY, xPar, sq_rt, sq_ex, sq_xk, nx_xk, xXk, sSkip, sSeq, sFrz, sAsg, sAsgL, sAsgD, sAsgM, sSetIx, sSetIx2, sSetAt, sSetAtL, sSetAtD, sSetAtM, sSetF, sSetF2, sExpr, sApp, sRev, sClr, sAppT, sClrT, sIf, sRet, sRetN, sRaise, D.nc, D.ncs, Wd.put_same, Wd.put_put, gS0, gS1, aA0, aA1, aA2, xS1, xS2, xS3, xS4, xS5, xS6, xS7, sdD]
        refine ⟨fun z => (by cases z), fun _ => ⟨fun z => (by cases z), fun _ => ?_⟩⟩
        rw [sq_nx]
        exact t3 (fun z => absurd rfl z) fun _ => by simp [dueX, i, g rfl]
      | some x =>
        rw [vNotN, vVar]
        simp only [sdD, xSlot, gS0, gS1, xSome, xR1, xN3, xSc, xBl]
        refine ⟨fun _ => ?_, fun z => (by cases z)⟩
        rw [vNot]
        refine lev07 rfl ?_
        · simp only [xSc, xT1, xSome]
          cases j : inr 8 x with
          | false =>
            refine ⟨fun _ => ?_, fun z => by cases z⟩
            simp only [lev, levs, xSome, xInt, xBl, xLst, xTup, xScr, xDic, xObj, xVal, xPLst, xPMat, xPDic, xSlot, xSlotI, xFld, xOb, xNewFld, xR1, xR2, xR3, xR4, xK1, xK2, xN1, xN2, xN3, xN4, xN5, xN6, xT1, xT2, xC1, xC2, xC3, xC4, xC5, xC6, xC7, xC8, xC9, xC10, xB1, xB2, xB3, xB4, xB5, xB6, xB7, xI1, xI2, xI3, xL1, xL2, xL3, xL4, xL5, xL6, xSc, xFr, xZZ, xYY, xPar, sq_rt, sq_ex, sq_xk, nx_xk, xXk, sSkip, sSeq, sFrz, sAsg, sAsgL, sAsgD, sAsgM, sSetIx, sSetIx2, sSetAt, sSetAtL, sSetAtD, sSetAtM, sSetF, sSetF2, sExpr, sApp, sRev, sClr, sAppT, sClrT, sIf, sRet, sRetN, sRaise, D.nc, D.ncs, Wd.put_same, Wd.put_put, gS0, gS1, aA0, aA1, aA2, xS1, xS2, xS3, xS4, xS5, xS6, xS7]
            exact ⟨by simp, drt rfl (lit _ _ _ _ _ .noSide (by simp [dueX, i, j]) rfl)⟩
          | true =>
            refine ⟨fun z => (by cases z), fun _ => ?_⟩
            rw [sSkip, sq_nx]
            refine t3 (fun _ z => by simp [dueX, i, j, z]) fun z => ?_
            rcases z with z | z
            · cases z
            · simp [dueX, i, j, z]
    rw [sSkip, sq_nx, b_k03_44_1, sSeq, sIf, vAnd]
    simp only [lev, levs, xSome, xInt, xBl, xLst, xTup, xScr, xDic, xObj, xVal, xPLst, xPMat, xPDic, xSlot, xSlotI, xFld, xOb, xNewFld, xR1, xR2, xR3, xR4, xK1, xK2, xN1, xN2, xN3, xN4, xN5, xN6, xT1, xT2, xC1, xC2, xC3, xC4, xC5, xC6, xC7, xC8, xC9, xC10, xB1, xB2, xB3, xB4, xB5, xB6, xB7, xI1, xI2, xI3, xL1, xL2, xL3, xL4, xL5, xL6, xSc, xFr, xZZ, xYY, xPar, sq_rt, sq_ex, sq_xk, nx_xk, xXk, sSkip, sSeq, sFrz, sAsg, sAsgL, sAsgD, sAsgM, sSetIx, sSetIx2, sSetAt, sSetAtL, sSetAtD, sSetAtM, sSetF, sSetF2, sExpr, sApp, sRev, sClr, sAppT, sClrT, sIf, sRet, sRetN, sRaise, D.nc, D.ncs, Wd.put_same, Wd.put_put, gS0, gS1, aA0, aA1, aA2, xS1, xS2, xS3, xS4, xS5, xS6, xS7, xPar, List.map_cons, List.map_nil, List.cons_append, List.nil_append, List.replicate, isNon_sd, at_side i]
    refine ⟨fun z => ⟨fun z2 => ⟨by simp, drt rfl ?_⟩, fun z2 => t2 fun _ => by simpa using z2⟩, fun z => ⟨fun z2 => (by cases z2), fun _ => t2 fun e => absurd e (by simpa using z)⟩⟩
    have e1 : v = none := by simpa using z
    have e2 : sideAt s a = none := by simpa using z2
    exact lit _ _ _ _ _ .noUnit (by subst e1; simp [dueX, i, e2]) rfl
theorem rollP_len (s : Sd) : (rollP s).length ≤ s.length := by
  unfold rollP
  exact Nat.le_trans (List.length_filterMap_le _ _) (by simp)
theorem ok_k03_45' {Phi : Nat → LSp} (h : Phi 42 = S_whole) : LOk Phi b_k03_45 2 2 S_lroll := by
  rintro ds w Q E ⟨s, rfl, hs, q⟩
  refine ⟨rfl, ?_⟩
  have hl := rollP_len s
  have hlm : ((rollP s).map pairD).length = (rollP s).length := by simp
  rw [b_k03_45]
  simp only [lev, levs, xSome, xInt, xBl, xLst, xTup, xScr, xDic, xObj, xVal, xPLst, xPMat, xPDic, xSlot, xSlotI, xFld, xOb, xNewFld, xR1, xR2, xR3, xR4, xK1, xK2, xN1, xN2, xN3, xN4, xN5, xN6, xT1, xT2, xC1, xC2, xC3, xC4, xC5, xC6, xC7, xC8, xC9, xC10, xB1, xB2, xB3, xB4, xB5, xB6, xB7, xI1, xI2, xI3, xL1, xL2, xL3, xL4, xL5, xL6, xSc, xFr, xZZ, xYY, xPar, sq_rt, sq_ex, sq_xk, nx_xk, xXk, sSkip, sSeq, sFrz, sAsg, sAsgL, sAsgD, sAsgM, sSetIx, sSetIx2, sSetAt, sSetAtL, sSetAtD, sSetAtM, sSetF, sSetF2, sExpr, sApp, sRev, sClr, sAppT, sClrT, sIf, sRet, sRetN, sRaise, D.nc, D.ncs, Wd.put_same, Wd.put_put, gS0, gS1, aA0, aA1, aA2, xS1, xS2, xS3, xS4, xS5, xS6, xS7, List.map_cons, List.map_nil, List.cons_append, List.nil_append, List.replicate, List.length_map]
  refine ⟨by intro pc e; simp at e, by omega, by omega, compI (rollI s) ?_ (fun d hd m => ?_) ?_⟩
  · simp [top]; omega
  · obtain ⟨k, hk, rfl⟩ := List.mem_map.mp hd
    have hk : k < s.length := by simpa using hk
    have j : inr s.length (k : Int) = true := inr_iff.mpr ⟨by omega, by omega⟩
    simp only [lev, levs, xSome, xInt, xBl, xLst, xTup, xScr, xDic, xObj, xVal, xPLst, xPMat, xPDic, xSlot, xSlotI, xFld, xOb, xNewFld, xR1, xR2, xR3, xR4, xK1, xK2, xN1, xN2, xN3, xN4, xN5, xN6, xT1, xT2, xC1, xC2, xC3, xC4, xC5, xC6, xC7, xC8, xC9, xC10, xB1, xB2, xB3, xB4, xB5, xB6, xB7, xI1, xI2, xI3, xL1, xL2, xL3, xL4, xL5, xL6, xSc, xFr, xZZ, xYY, xPar, sq_rt, sq_ex, sq_xk, nx_xk, xXk, sSkip, sSeq, sFrz, sAsg, sAsgL, sAsgD, sAsgM, sSetIx, sSetIx2, sSetAt, sSetAtL, sSetAtD, sSetAtM, sSetF, sSetF2, sExpr, sApp, sRev, sClr, sAppT, sClrT, sIf, sRet, sRetN, sRaise, D.nc, D.ncs, Wd.put_same, Wd.put_put, gS0, gS1, aA0, aA1, aA2, xS1, xS2, xS3, xS4, xS5, xS6, xS7, List.set, at_side j, isNon_sd]
    refine ⟨trivial, fun z => ?_, fun z => ?_⟩
    · cases hs : sideAt s (k : Int) with
      | none => rw [hs] at z; simp at z
      | some v =>
        refine ⟨by simp, trivial, by simp [R.zz], by simp [R.yy, R.zz, sdD, D.nc], ?_⟩
        show (sideAt s (k : Int)).map _ = _
        rw [hs]; rfl
    · have hs : sideAt s (k : Int) = none := by simpa using z
      show (sideAt s (k : Int)).map _ = _
      rw [hs]; rfl
  · rw [rollI_all s (by simp)]
    refine ⟨by rfl, ?_⟩
    rw [sq_nx, b_k03_45_1]
    simp only [lev, levs, xSome, xInt, xBl, xLst, xTup, xScr, xDic, xObj, xVal, xPLst, xPMat, xPDic, xSlot, xSlotI, xFld, xOb, xNewFld, xR1, xR2, xR3, xR4, xK1, xK2, xN1, xN2, xN3, xN4, xN5, xN6, xT1, xT2, xC1, xC2, xC3, xC4, xC5, xC6, xC7, xC8, xC9, xC10, xB1, xB2, xB3, xB4, xB5, xB6, xB7, xI1, xI2, xI3, xL1, xL2, xL3, xL4, xL5, xL6, xSc, xFr, xZZ, xYY, xPar, sq_rt, sq_ex, sq_xk, nx_xk, xXk, sSkip, sSeq, sFrz, sAsg, sAsgL, sAsgD, sAsgM, sSetIx, sSetIx2, sSetAt, sSetAtL, sSetAtD, sSetAtM, sSetF, sSetF2, sExpr, sApp, sRev, sClr, sAppT, sClrT, sIf, sRet, sRetN, sRaise, D.nc, D.ncs, Wd.put_same, Wd.put_put, gS0, gS1, aA0, aA1, aA2, xS1, xS2, xS3, xS4, xS5, xS6, xS7, List.set, hlm]
    refine ⟨fun z => by simp at z, fun _ => ⟨by rfl, by rfl, fun z => by simp [D.eqv, sc] at z, fun _ => ?_⟩⟩
    rw [sq_nx, b_k03_45_2, sSeq, sForR]
    simp only [lev, levs, xSome, xInt, xBl, xLst, xTup, xScr, xDic, xObj, xVal, xPLst, xPMat, xPDic, xSlot, xSlotI, xFld, xOb, xNewFld, xR1, xR2, xR3, xR4, xK1, xK2, xN1, xN2, xN3, xN4, xN5, xN6, xT1, xT2, xC1, xC2, xC3, xC4, xC5, xC6, xC7, xC8, xC9, xC10, xB1, xB2, xB3, xB4, xB5, xB6, xB7, xI1, xI2, xI3, xL1, xL2, xL3, xL4, xL5, xL6, xSc, xFr, xZZ, xYY, xPar, sq_rt, sq_ex, sq_xk, nx_xk, xXk, sSkip, sSeq, sFrz, sAsg, sAsgL, sAsgD, sAsgM, sSetIx, sSetIx2, sSetAt, sSetAtL, sSetAtD, sSetAtM, sSetF, sSetF2, sExpr, sApp, sRev, sClr, sAppT, sClrT, sIf, sRet, sRetN, sRaise, D.nc, D.ncs, Wd.put_same, Wd.put_put, gS0, gS1, aA0, aA1, aA2, xS1, xS2, xS3, xS4, xS5, xS6, xS7, hlm]
    refine ⟨by omega, by omega, by omega, by omega, fun m env w' => w' = w ∧ ∃ o, env = [some (.val (.lst ((rollP s).map pairD)) false), some (.val (.lst (s.map sdD)) false), some (.val (.lst ((rollP s).map pairD)) true), o], ⟨rfl, _, rfl⟩, ?_, ?_⟩
    · rintro m env w' hm ⟨rfl, o, rfl⟩
      have hm' : m < (rollP s).length := by omega
      have e3 : at0 ((rollP s).map pairD) (0 + (m : Int)) = some (.tup [.int (rollP s)[m].1, .int (rollP s)[m].2]) := by rw [at0_of (by omega)]; simp [hm', pairD]
      simp only [List.set, lev, levs, xSome, xInt, xBl, xLst, xTup, xScr, xDic, xObj, xVal, xPLst, xPMat, xPDic, xSlot, xSlotI, xFld, xOb, xNewFld, xR1, xR2, xR3, xR4, xK1, xK2, xN1, xN2, xN3, xN4, xN5, xN6, xT1, xT2, xC1, xC2, xC3, xC4, xC5, xC6, xC7, xC8, xC9, xC10, xB1, xB2, xB3, xB4, xB5, xB6, xB7, xI1, xI2, xI3, xL1, xL2, xL3, xL4, xL5, xL6, xSc, xFr, xZZ, xYY, xPar, sq_rt, sq_ex, sq_xk, nx_xk, xXk, sSkip, sSeq, sFrz, sAsg, sAsgL, sAsgD, sAsgM, sSetIx, sSetIx2, sSetAt, sSetAtL, sSetAtD, sSetAtM, sSetF, sSetF2, sExpr, sApp, sRev, sClr, sAppT, sClrT, sIf, sRet, sRetN, sRaise, D.nc, D.ncs, Wd.put_same, Wd.put_put, gS0, gS1, aA0, aA1, aA2, xS1, xS2, xS3, xS4, xS5, xS6, xS7, e3, h]
      refine ⟨fun z => by simp at z, fun _ => ⟨by rfl, by rfl, fun z => by simp [D.eqv, sc] at z, fun _ => ?_⟩⟩
      rw [sq_nx]
      simp only [lev, levs, xSome, xInt, xBl, xLst, xTup, xScr, xDic, xObj, xVal, xPLst, xPMat, xPDic, xSlot, xSlotI, xFld, xOb, xNewFld, xR1, xR2, xR3, xR4, xK1, xK2, xN1, xN2, xN3, xN4, xN5, xN6, xT1, xT2, xC1, xC2, xC3, xC4, xC5, xC6, xC7, xC8, xC9, xC10, xB1, xB2, xB3, xB4, xB5, xB6, xB7, xI1, xI2, xI3, xL1, xL2, xL3, xL4, xL5, xL6, xSc, xFr, xZZ, xYY, xPar, sq_rt, sq_ex, sq_xk, nx_xk, xXk, sSkip, sSeq, sFrz, sAsg, sAsgL, sAsgD, sAsgM, sSetIx, sSetIx2, sSetAt, sSetAtL, sSetAtD, sSetAtM, sSetF, sSetF2, sExpr, sApp, sRev, sClr, sAppT, sClrT, sIf, sRet, sRetN, sRaise, D.nc, D.ncs, Wd.put_same, Wd.put_put, gS0, gS1, aA0, aA1, aA2, xS1, xS2, xS3, xS4, xS5, xS6, xS7, e3, h]
      refine ⟨_, rfl, ?_⟩
      simp only [lev, levs, xSome, xInt, xBl, xLst, xTup, xScr, xDic, xObj, xVal, xPLst, xPMat, xPDic, xSlot, xSlotI, xFld, xOb, xNewFld, xR1, xR2, xR3, xR4, xK1, xK2, xN1, xN2, xN3, xN4, xN5, xN6, xT1, xT2, xC1, xC2, xC3, xC4, xC5, xC6, xC7, xC8, xC9, xC10, xB1, xB2, xB3, xB4, xB5, xB6, xB7, xI1, xI2, xI3, xL1, xL2, xL3, xL4, xL5, xL6, xSc, xFr, xZZ, xYY, xPar, sq_rt, sq_ex, sq_xk, nx_xk, xXk, sSkip, sSeq, sFrz, sAsg, sAsgL, sAsgD, sAsgM, sSetIx, sSetIx2, sSetAt, sSetAtL, sSetAtD, sSetAtM, sSetF, sSetF2, sExpr, sApp, sRev, sClr, sAppT, sClrT, sIf, sRet, sRetN, sRaise, D.nc, D.ncs, Wd.put_same, Wd.put_put, gS0, gS1, aA0, aA1, aA2, xS1, xS2, xS3, xS4, xS5, xS6, xS7, h]
      refine ⟨fun z => by simp at z, fun _ => ⟨_, rfl, ?_⟩⟩
      simp only [lev, levs, xSome, xInt, xBl, xLst, xTup, xScr, xDic, xObj, xVal, xPLst, xPMat, xPDic, xSlot, xSlotI, xFld, xOb, xNewFld, xR1, xR2, xR3, xR4, xK1, xK2, xN1, xN2, xN3, xN4, xN5, xN6, xT1, xT2, xC1, xC2, xC3, xC4, xC5, xC6, xC7, xC8, xC9, xC10, xB1, xB2, xB3, xB4, xB5, xB6, xB7, xI1, xI2, xI3, xL1, xL2, xL3, xL4, xL5, xL6, xSc, xFr, xZZ, xYY, xPar, sq_rt, sq_ex, sq_xk, nx_xk, xXk, sSkip, sSeq, sFrz, sAsg, sAsgL, sAsgD, sAsgM, sSetIx, sSetIx2, sSetAt, sSetAtL, sSetAtD, sSetAtM, sSetF, sSetF2, sExpr, sApp, sRev, sClr, sAppT, sClrT, sIf, sRet, sRetN, sRaise, D.nc, D.ncs, Wd.put_same, Wd.put_put, gS0, gS1, aA0, aA1, aA2, xS1, xS2, xS3, xS4, xS5, xS6, xS7]
      refine ⟨fun z => by simp at z, fun _ => ⟨by rfl, by rfl, fun z => ?_, fun _ => ⟨trivial, _, rfl⟩⟩⟩
      rw [eqv_self 8 _ rfl] at z
      cases z
    · rintro env w' ⟨rfl, o, rfl⟩
      rw [sq_nx, b_k03_45_3]
      simp only [lev, levs, xSome, xInt, xBl, xLst, xTup, xScr, xDic, xObj, xVal, xPLst, xPMat, xPDic, xSlot, xSlotI, xFld, xOb, xNewFld, xR1, xR2, xR3, xR4, xK1, xK2, xN1, xN2, xN3, xN4, xN5, xN6, xT1, xT2, xC1, xC2, xC3, xC4, xC5, xC6, xC7, xC8, xC9, xC10, xB1, xB2, xB3, xB4, xB5, xB6, xB7, xI1, xI2, xI3, xL1, xL2, xL3, xL4, xL5, xL6, xSc, xFr, xZZ, xYY, xPar, sq_rt, sq_ex, sq_xk, nx_xk, xXk, sSkip, sSeq, sFrz, sAsg, sAsgL, sAsgD, sAsgM, sSetIx, sSetIx2, sSetAt, sSetAtL, sSetAtD, sSetAtM, sSetF, sSetF2, sExpr, sApp, sRev, sClr, sAppT, sClrT, sIf, sRet, sRetN, sRaise, D.nc, D.ncs, Wd.put_same, Wd.put_put, gS0, gS1, aA0, aA1, aA2, xS1, xS2, xS3, xS4, xS5, xS6, xS7]
      exact drt rfl q
def S_lawk03 : LSp := fun ds w Q E => ∃ ns : List Int, ds = [.scr ns] ∧ (w = fun _ => none) ∧ ∀ w', Q (.bl true) w'
def Phi_k03 : Nat → LSp
  | 0 => S_minit | 1 => S_known | 2 => S_link | 3 => S_beside | 4 => S_near
  | 5 => S_binit | 6 => S_post | 7 => S_side | 8 => S_lift | 9 => S_roll
  | 41 => S_cell | 42 => S_whole | 43 => S_ldone | 44 => S_ldue | 45 => S_lroll | 46 => S_lawk03
  | _ => fun _ _ _ _ => False
theorem ok_k03_41 : LOk Phi_k03 b_k03_41 2 0 (Phi_k03 41) := ok_cell rfl
theorem ok_k03_42 : LOk Phi_k03 b_k03_42 1 0 (Phi_k03 42) := ok_whole rfl
theorem ok_k03_43 : LOk Phi_k03 b_k03_43 3 2 (Phi_k03 43) := ok_k03_43' rfl rfl
theorem ok_k03_44 : LOk Phi_k03 b_k03_44 3 0 (Phi_k03 44) := ok_k03_44'
theorem ok_k03_45 : LOk Phi_k03 b_k03_45 2 2 (Phi_k03 45) := ok_k03_45' rfl
theorem ncs_pairs : ∀ l : List (Int × Int), D.ncs (l.map pairD) = true
  | [] => rfl
  | _ :: l => by simp [D.ncs, D.nc, pairD, ncs_pairs l]
theorem pl_sd (o : Option Int) : (sdD o).pl = true := by cases o <;> rfl
theorem eqv_sd (o : Option Int) : D.eqv (sdD o) (sdD o) = true := eqv_self 8 _ (pl_sd o)
theorem eqv_res (x : Option Ex) : D.eqv (resX x) (resX x) = true := eqv_self 8 _ (pl_res x)
abbrev e3 (ns : List Int) (n : Int) (p m : Nat) (s : Sd) (a b c d : Option PC) : Env := [some (.val (.scr ns) false), some (.val (.int n) true), some (.val (.obj m) true), some (.val (.obj p) true), some (.lst (s.map sdD)), a, b, c, d]
theorem roll_use {w : Wd} {p m : Nat} {n : Int} {M : Mx} {s : Sd} {Q : D → Wd → Prop} {E : Ex → Wd → Prop} (B : Bd w p m n M s) (q : Q (.lst ((rollP s).map pairD)) w) : S_roll [.obj p] w Q E := ⟨p, m, n, M, s, rfl, B, q⟩
theorem side_use {w : Wd} {p m : Nat} {n a : Int} {M : Mx} {s : Sd} {Q : D → Wd → Prop} {E : Ex → Wd → Prop} (B : Bd w p m n M s) (i : inr n a = true) (q : Q (sdD (sideAt s a)) w) : S_side [.obj p, .int a] w Q E := ⟨p, m, n, M, s, a, rfl, B, (fun z => by rw [i] at z; cases z), fun _ => q⟩
section
variable {Q : D → Wd → Prop} {E : Ex → Wd → Prop} (q : ∀ w', Q (.bl true) w') {ns : List Int} {n : Int} (h1 : 1 ≤ n) (h2 : n ≤ 60)
variable {a b c d : Option PC} {w : Wd} {p m : Nat} {M : Mx} {s : Sd}
include q in
theorem v6 (h2 : n ≤ 60) (B : Bd w p m n M s) : les Phi_k03 b_k03_46_6 (defEnds Q E) (e3 ns n p m s a b c d) w := by
  rw [b_k03_46_6]
  simp only [lev, levs, xSome, xInt, xBl, xLst, xTup, xScr, xDic, xObj, xVal, xPLst, xPMat, xPDic, xSlot, xSlotI, xFld, xOb, xNewFld, xR1, xR2, xR3, xR4, xK1, xK2, xN1, xN2, xN3, xN4, xN5, xN6, xT1, xT2, xC1, xC2, xC3, xC4, xC5, xC6, xC7, xC8, xC9, xC10, xB1, xB2, xB3, xB4, xB5, xB6, xB7, xI1, xI2, xI3, xL1, xL2, xL3, xL4, xL5, xL6, xSc, xFr, xZZ, xYY, xPar, sq_rt, sq_ex, sq_xk, nx_xk, xXk, sSkip, sSeq, sFrz, sAsg, sAsgL, sAsgD, sAsgM, sSetIx, sSetIx2, sSetAt, sSetAtL, sSetAtD, sSetAtM, sSetF, sSetF2, sExpr, sApp, sRev, sClr, sAppT, sClrT, sIf, sRet, sRetN, sRaise, D.nc, D.ncs, Wd.put_same, Wd.put_put, gS0, gS1, aA0, aA1, aA2, xS1, xS2, xS3, xS4, xS5, xS6, xS7, e3, B.b, bdC, Phi_k03]
  refine ⟨trivial, roll_use B ⟨trivial, trivial, ncs_pairs _, ?_⟩⟩
  rw [sq_nx, b_k03_46_7]
  simp only [lev, levs, xSome, xInt, xBl, xLst, xTup, xScr, xDic, xObj, xVal, xPLst, xPMat, xPDic, xSlot, xSlotI, xFld, xOb, xNewFld, xR1, xR2, xR3, xR4, xK1, xK2, xN1, xN2, xN3, xN4, xN5, xN6, xT1, xT2, xC1, xC2, xC3, xC4, xC5, xC6, xC7, xC8, xC9, xC10, xB1, xB2, xB3, xB4, xB5, xB6, xB7, xI1, xI2, xI3, xL1, xL2, xL3, xL4, xL5, xL6, xSc, xFr, xZZ, xYY, xPar, sq_rt, sq_ex, sq_xk, nx_xk, xXk, sSkip, sSeq, sFrz, sAsg, sAsgL, sAsgD, sAsgM, sSetIx, sSetIx2, sSetAt, sSetAtL, sSetAtD, sSetAtM, sSetF, sSetF2, sExpr, sApp, sRev, sClr, sAppT, sClrT, sIf, sRet, sRetN, sRaise, D.nc, D.ncs, Wd.put_same, Wd.put_put, gS0, gS1, aA0, aA1, aA2, xS1, xS2, xS3, xS4, xS5, xS6, xS7, B.b, bd_chart, B.m, map_fgetS, bdC, Phi_k03]
  refine ⟨by rfl, by rfl, fun _ => ⟨trivial, roll_use B ?_⟩, fun z => by simp [D.eqv] at z⟩
  refine ⟨s, rfl, ?_, drt rfl (q w)⟩
  have := B.len
  omega
include q h1 h2 in
theorem v5 (B : Bd w p m n M s) : les Phi_k03 b_k03_46_5 (defEnds Q E) (e3 ns n p m s a b c d) w := by
  rw [b_k03_46_5, sSeq, sForL]
  simp only [lev, levs, xSome, xInt, xBl, xLst, xTup, xScr, xDic, xObj, xVal, xPLst, xPMat, xPDic, xSlot, xSlotI, xFld, xOb, xNewFld, xR1, xR2, xR3, xR4, xK1, xK2, xN1, xN2, xN3, xN4, xN5, xN6, xT1, xT2, xC1, xC2, xC3, xC4, xC5, xC6, xC7, xC8, xC9, xC10, xB1, xB2, xB3, xB4, xB5, xB6, xB7, xI1, xI2, xI3, xL1, xL2, xL3, xL4, xL5, xL6, xSc, xFr, xZZ, xYY, xPar, sq_rt, sq_ex, sq_xk, nx_xk, xXk, sSkip, sSeq, sFrz, sAsg, sAsgL, sAsgD, sAsgM, sSetIx, sSetIx2, sSetAt, sSetAtL, sSetAtD, sSetAtM, sSetF, sSetF2, sExpr, sApp, sRev, sClr, sAppT, sClrT, sIf, sRet, sRetN, sRaise, D.nc, D.ncs, Wd.put_same, Wd.put_put, gS0, gS1, aA0, aA1, aA2, xS1, xS2, xS3, xS4, xS5, xS6, xS7, e3]
  refine ⟨trivial, fun i env w' => ∃ s a b c d, Bd w' p m n M s ∧ env = e3 ns n p m s a b c d, ⟨s, _, _, _, _, B, rfl⟩, ?_, ?_⟩
  · rintro i dd env w' hd ⟨s, a, b, c, d, B, rfl⟩
    obtain ⟨cell, hc, rfl⟩ : ∃ cell, cell ∈ ns.take 30 ∧ D.int cell = dd := List.mem_map.mp (List.mem_of_getElem? hd)
    simp only [e3, List.set, lev, levs, xSome, xInt, xBl, xLst, xTup, xScr, xDic, xObj, xVal, xPLst, xPMat, xPDic, xSlot, xSlotI, xFld, xOb, xNewFld, xR1, xR2, xR3, xR4, xK1, xK2, xN1, xN2, xN3, xN4, xN5, xN6, xT1, xT2, xC1, xC2, xC3, xC4, xC5, xC6, xC7, xC8, xC9, xC10, xB1, xB2, xB3, xB4, xB5, xB6, xB7, xI1, xI2, xI3, xL1, xL2, xL3, xL4, xL5, xL6, xSc, xFr, xZZ, xYY, xPar, sq_rt, sq_ex, sq_xk, nx_xk, xXk, sSkip, sSeq, sFrz, sAsg, sAsgL, sAsgD, sAsgM, sSetIx, sSetIx2, sSetAt, sSetAtL, sSetAtD, sSetAtM, sSetF, sSetF2, sExpr, sApp, sRev, sClr, sAppT, sClrT, sIf, sRet, sRetN, sRaise, D.nc, D.ncs, Wd.put_same, Wd.put_put, gS0, gS1, aA0, aA1, aA2, xS1, xS2, xS3, xS4, xS5, xS6, xS7]
    refine ⟨by omega, by omega, by omega, by rfl, ?_⟩
    rw [sq_nx]
    simp only [lev, levs, xSome, xInt, xBl, xLst, xTup, xScr, xDic, xObj, xVal, xPLst, xPMat, xPDic, xSlot, xSlotI, xFld, xOb, xNewFld, xR1, xR2, xR3, xR4, xK1, xK2, xN1, xN2, xN3, xN4, xN5, xN6, xT1, xT2, xC1, xC2, xC3, xC4, xC5, xC6, xC7, xC8, xC9, xC10, xB1, xB2, xB3, xB4, xB5, xB6, xB7, xI1, xI2, xI3, xL1, xL2, xL3, xL4, xL5, xL6, xSc, xFr, xZZ, xYY, xPar, sq_rt, sq_ex, sq_xk, nx_xk, xXk, sSkip, sSeq, sFrz, sAsg, sAsgL, sAsgD, sAsgM, sSetIx, sSetIx2, sSetAt, sSetAtL, sSetAtD, sSetAtM, sSetF, sSetF2, sExpr, sApp, sRev, sClr, sAppT, sClrT, sIf, sRet, sRetN, sRaise, D.nc, D.ncs, Wd.put_same, Wd.put_put, gS0, gS1, aA0, aA1, aA2, xS1, xS2, xS3, xS4, xS5, xS6, xS7, List.set]
    refine ⟨by omega, by omega, by omega, by rfl, ?_⟩
    rw [sq_nx]
    generalize cell / 3 % (n + 4) - 2 = at_
    generalize cell / 200 % 12 - 2 = sd_
    have hn : (s.length : Int) = n := by have := B.len; omega
    -- behind the check of the deed
    have last : ∀ (w' : Wd) (s : Sd) (v : Option Int) (r : Option PC) (y z : Bool), Bd w' p m n M s → (Ends.sq Phi_k03 (.seq (.ifS (.not (.call 45 (.cons (.meth .board 9 (.var 3) .nil) (.cons (.var 4) .nil)))) (.ret (.cst (.bl false))) .skip) (.ifS (.and (.chain .le .lt (.cst (.int 0)) (.var 6) (.var 1)) (.cmp .ne (.meth .board 7 (.var 3) (.cons (.var 6) .nil)) (.idx (.var 4) (.var 6)))) (.ret (.cst (.bl false))) .skip))
        { (Ends.sq Phi_k03 b_k03_46_6 (defEnds Q E)) with nx := fun env w' => ∃ s a b c d, Bd w' p m n M s ∧ env = e3 ns n p m s a b c d }).nx
        [some (.val (.scr ns) false), some (.val (.int n) true), some (.val (.obj m) true), some (.val (.obj p) true), some (.lst (s.map sdD)), some (.val (.int cell) y), some (.val (.int at_) true), some (.val (sdD v) z), r] w' := fun w' s v r y z B => by
      rw [sq_nx]
      simp only [lev, levs, xSome, xInt, xBl, xLst, xTup, xScr, xDic, xObj, xVal, xPLst, xPMat, xPDic, xSlot, xSlotI, xFld, xOb, xNewFld, xR1, xR2, xR3, xR4, xK1, xK2, xN1, xN2, xN3, xN4, xN5, xN6, xT1, xT2, xC1, xC2, xC3, xC4, xC5, xC6, xC7, xC8, xC9, xC10, xB1, xB2, xB3, xB4, xB5, xB6, xB7, xI1, xI2, xI3, xL1, xL2, xL3, xL4, xL5, xL6, xSc, xFr, xZZ, xYY, xPar, sq_rt, sq_ex, sq_xk, nx_xk, xXk, sSkip, sSeq, sFrz, sAsg, sAsgL, sAsgD, sAsgM, sSetIx, sSetIx2, sSetAt, sSetAtL, sSetAtD, sSetAtM, sSetF, sSetF2, sExpr, sApp, sRev, sClr, sAppT, sClrT, sIf, sRet, sRetN, sRaise, D.nc, D.ncs, Wd.put_same, Wd.put_put, gS0, gS1, aA0, aA1, aA2, xS1, xS2, xS3, xS4, xS5, xS6, xS7, B.b, bdC, Phi_k03]
      refine ⟨trivial, roll_use B ⟨s, rfl, by have := B.len; omega, ?_⟩⟩
      simp only [lev, levs, xSome, xInt, xBl, xLst, xTup, xScr, xDic, xObj, xVal, xPLst, xPMat, xPDic, xSlot, xSlotI, xFld, xOb, xNewFld, xR1, xR2, xR3, xR4, xK1, xK2, xN1, xN2, xN3, xN4, xN5, xN6, xT1, xT2, xC1, xC2, xC3, xC4, xC5, xC6, xC7, xC8, xC9, xC10, xB1, xB2, xB3, xB4, xB5, xB6, xB7, xI1, xI2, xI3, xL1, xL2, xL3, xL4, xL5, xL6, xSc, xFr, xZZ, xYY, xPar, sq_rt, sq_ex, sq_xk, nx_xk, xXk, sSkip, sSeq, sFrz, sAsg, sAsgL, sAsgD, sAsgM, sSetIx, sSetIx2, sSetAt, sSetAtL, sSetAtD, sSetAtM, sSetF, sSetF2, sExpr, sApp, sRev, sClr, sAppT, sClrT, sIf, sRet, sRetN, sRaise, D.nc, D.ncs, Wd.put_same, Wd.put_put, gS0, gS1, aA0, aA1, aA2, xS1, xS2, xS3, xS4, xS5, xS6, xS7]
      refine ⟨fun z => by simp at z, fun _ => ?_⟩
      rw [sq_nx, sIf, vAnd]
      refine levIn rfl rfl ?_
      simp only [xSc, xBl]
      cases i : inr n at_ with
      | false =>
        refine ⟨(fun z => by cases z), fun _ => ?_⟩
        simp only [lev, levs, xSome, xInt, xBl, xLst, xTup, xScr, xDic, xObj, xVal, xPLst, xPMat, xPDic, xSlot, xSlotI, xFld, xOb, xNewFld, xR1, xR2, xR3, xR4, xK1, xK2, xN1, xN2, xN3, xN4, xN5, xN6, xT1, xT2, xC1, xC2, xC3, xC4, xC5, xC6, xC7, xC8, xC9, xC10, xB1, xB2, xB3, xB4, xB5, xB6, xB7, xI1, xI2, xI3, xL1, xL2, xL3, xL4, xL5, xL6, xSc, xFr, xZZ, xYY, xPar, sq_rt, sq_ex, sq_xk, nx_xk, xXk, sSkip, sSeq, sFrz, sAsg, sAsgL, sAsgD, sAsgM, sSetIx, sSetIx2, sSetAt, sSetAtL, sSetAtD, sSetAtM, sSetF, sSetF2, sExpr, sApp, sRev, sClr, sAppT, sClrT, sIf, sRet, sRetN, sRaise, D.nc, D.ncs, Wd.put_same, Wd.put_put, gS0, gS1, aA0, aA1, aA2, xS1, xS2, xS3, xS4, xS5, xS6, xS7]
        exact ⟨(fun z => by cases z), fun _ => ⟨s, _, _, _, _, B, rfl⟩⟩
      | true =>
        refine ⟨fun _ => ?_, fun z => by cases z⟩
        simp only [lev, levs, xSome, xInt, xBl, xLst, xTup, xScr, xDic, xObj, xVal, xPLst, xPMat, xPDic, xSlot, xSlotI, xFld, xOb, xNewFld, xR1, xR2, xR3, xR4, xK1, xK2, xN1, xN2, xN3, xN4, xN5, xN6, xT1, xT2, xC1, xC2, xC3, xC4, xC5, xC6, xC7, xC8, xC9, xC10, xB1, xB2, xB3, xB4, xB5, xB6, xB7, xI1, xI2, xI3, xL1, xL2, xL3, xL4, xL5, xL6, xSc, xFr, xZZ, xYY, xPar, sq_rt, sq_ex, sq_xk, nx_xk, xXk, sSkip, sSeq, sFrz, sAsg, sAsgL, sAsgD, sAsgM, sSetIx, sSetIx2, sSetAt, sSetAtL, sSetAtD, sSetAtM, sSetF, sSetF2, sExpr, sApp, sRev, sClr, sAppT, sClrT, sIf, sRet, sRetN, sRaise, D.nc, D.ncs, Wd.put_same, Wd.put_put, gS0, gS1, aA0, aA1, aA2, xS1, xS2, xS3, xS4, xS5, xS6, xS7, B.b, bdC, Phi_k03, B.at i]
        refine ⟨trivial, side_use B i ⟨pl_sd _, pl_sd _, ?_⟩⟩
        rw [eqv_sd]
        exact ⟨(fun z => by cases z), fun _ => ⟨s, _, _, _, _, B, rfl⟩⟩
    have mid : ∀ v : Option Int, (Ends.sq Phi_k03 (.seq (.asg 8 (.call 44 (.cons (.var 4) (.cons (.var 6) (.cons (.var 7) .nil))))) (.seq (.ifS (.cmp .ne (.call 43 (.cons (.var 3) (.cons (.var 6) (.cons (.var 7) .nil)))) (.var 8)) (.ret (.cst (.bl false))) .skip) (.seq (.ifS (.cmp .eq (.var 8) (.cst (.int 0))) (.setIx 4 (.var 6) (.var 7)) .skip) (.seq (.ifS (.not (.call 45 (.cons (.meth .board 9 (.var 3) .nil) (.cons (.var 4) .nil)))) (.ret (.cst (.bl false))) .skip) (.ifS (.and (.chain .le .lt (.cst (.int 0)) (.var 6) (.var 1)) (.cmp .ne (.meth .board 7 (.var 3) (.cons (.var 6) .nil)) (.idx (.var 4) (.var 6)))) (.ret (.cst (.bl false))) .skip)))))
        { (Ends.sq Phi_k03 b_k03_46_6 (defEnds Q E)) with nx := fun env w' => ∃ s a b c d, Bd w' p m n M s ∧ env = e3 ns n p m s a b c d }).nx
        [some (.val (.scr ns) false), some (.val (.int n) true), some (.val (.obj m) true), some (.val (.obj p) true), some (.lst (s.map sdD)), some (.val (.int cell) true), some (.val (.int at_) true), some (.val (sdD v) true), d] w' := fun v => by
      rw [sq_nx]
      simp only [lev, levs, xSome, xInt, xBl, xLst, xTup, xScr, xDic, xObj, xVal, xPLst, xPMat, xPDic, xSlot, xSlotI, xFld, xOb, xNewFld, xR1, xR2, xR3, xR4, xK1, xK2, xN1, xN2, xN3, xN4, xN5, xN6, xT1, xT2, xC1, xC2, xC3, xC4, xC5, xC6, xC7, xC8, xC9, xC10, xB1, xB2, xB3, xB4, xB5, xB6, xB7, xI1, xI2, xI3, xL1, xL2, xL3, xL4, xL5, xL6, xSc, xFr, xZZ, xYY, xPar, sq_rt, sq_ex, sq_xk, nx_xk, xXk, sSkip, sSeq, sFrz, sAsg, sAsgL, sAsgD, sAsgM, sSetIx, sSetIx2, sSetAt, sSetAtL, sSetAtD, sSetAtM, sSetF, sSetF2, sExpr, sApp, sRev, sClr, sAppT, sClrT, sIf, sRet, sRetN, sRaise, D.nc, D.ncs, Wd.put_same, Wd.put_put, gS0, gS1, aA0, aA1, aA2, xS1, xS2, xS3, xS4, xS5, xS6, xS7, Phi_k03, List.set]
      refine ⟨s, at_, v, rfl, by rfl, ?_⟩
      rw [hn, sq_nx]
      simp only [lev, levs, xSome, xInt, xBl, xLst, xTup, xScr, xDic, xObj, xVal, xPLst, xPMat, xPDic, xSlot, xSlotI, xFld, xOb, xNewFld, xR1, xR2, xR3, xR4, xK1, xK2, xN1, xN2, xN3, xN4, xN5, xN6, xT1, xT2, xC1, xC2, xC3, xC4, xC5, xC6, xC7, xC8, xC9, xC10, xB1, xB2, xB3, xB4, xB5, xB6, xB7, xI1, xI2, xI3, xL1, xL2, xL3, xL4, xL5, xL6, xSc, xFr, xZZ, xYY, xPar, sq_rt, sq_ex, sq_xk, nx_xk, xXk, sSkip, sSeq, sFrz, sAsg, sAsgL, sAsgD, sAsgM, sSetIx, sSetIx2, sSetAt, sSetAtL, sSetAtD, sSetAtM, sSetF, sSetF2, sExpr, sApp, sRev, sClr, sAppT, sClrT, sIf, sRet, sRetN, sRaise, D.nc, D.ncs, Wd.put_same, Wd.put_put, gS0, gS1, aA0, aA1, aA2, xS1, xS2, xS3, xS4, xS5, xS6, xS7, Phi_k03, List.set]
      refine ⟨p, m, n, M, s, at_, v, rfl, B, pl_res _, pl_res _, ?_⟩
      rw [eqv_res]
      refine ⟨(fun z => by cases z), fun _ => ?_⟩
      rw [sq_nx]
      simp only [lev, levs, xSome, xInt, xBl, xLst, xTup, xScr, xDic, xObj, xVal, xPLst, xPMat, xPDic, xSlot, xSlotI, xFld, xOb, xNewFld, xR1, xR2, xR3, xR4, xK1, xK2, xN1, xN2, xN3, xN4, xN5, xN6, xT1, xT2, xC1, xC2, xC3, xC4, xC5, xC6, xC7, xC8, xC9, xC10, xB1, xB2, xB3, xB4, xB5, xB6, xB7, xI1, xI2, xI3, xL1, xL2, xL3, xL4, xL5, xL6, xSc, xFr, xZZ, xYY, xPar, sq_rt, sq_ex, sq_xk, nx_xk, xXk, sSkip, sSeq, sFrz, sAsg, sAsgL, sAsgD, sAsgM, sSetIx, sSetIx2, sSetAt, sSetAtL, sSetAtD, sSetAtM, sSetF, sSetF2, sExpr, sApp, sRev, sClr, sAppT, sClrT, sIf, sRet, sRetN, sRaise, D.nc, D.ncs, Wd.put_same, Wd.put_put, gS0, gS1, aA0, aA1, aA2, xS1, xS2, xS3, xS4, xS5, xS6, xS7, List.set]
      refine ⟨pl_res _, by rfl, ?_⟩
      cases hX : dueX n s at_ v with
      | some x =>
        refine ⟨fun z => by simp [resX, D.eqv] at z, fun _ => ?_⟩
        exact last w' s v _ _ _ B
      | none =>
        refine ⟨fun _ => ?_, fun z => by simp [resX, D.eqv] at z⟩
        have i : inr n at_ = true := by
          cases i : inr n at_ with
          | true => rfl
          | false => simp [dueX, i] at hX
        obtain ⟨a0, a1⟩ := inr_iff.mp i
        refine ⟨nc_sd _, a0, by rw [List.length_map]; omega, ?_⟩
        rw [show (s.map sdD).set at_.toNat (sdD v) = (s.set at_.toNat v).map sdD by rw [List.map_set]]
        exact last _ _ v _ _ _ (B.set v at_)
    simp only [lev, levs, xSome, xInt, xBl, xLst, xTup, xScr, xDic, xObj, xVal, xPLst, xPMat, xPDic, xSlot, xSlotI, xFld, xOb, xNewFld, xR1, xR2, xR3, xR4, xK1, xK2, xN1, xN2, xN3, xN4, xN5, xN6, xT1, xT2, xC1, xC2, xC3, xC4, xC5, xC6, xC7, xC8, xC9, xC10, xB1, xB2, xB3, xB4, xB5, xB6, xB7, xI1, xI2, xI3, xL1, xL2, xL3, xL4, xL5, xL6, xSc, xFr, xZZ, xYY, xPar, sq_rt, sq_ex, sq_xk, nx_xk, xXk, sSkip, sSeq, sFrz, sAsg, sAsgL, sAsgD, sAsgM, sSetIx, sSetIx2, sSetAt, sSetAtL, sSetAtD, sSetAtM, sSetF, sSetF2, sExpr, sApp, sRev, sClr, sAppT, sClrT, sIf, sRet, sRetN, sRaise, D.nc, D.ncs, Wd.put_same, Wd.put_put, gS0, gS1, aA0, aA1, aA2, xS1, xS2, xS3, xS4, xS5, xS6, xS7]
    refine ⟨by omega, by rfl, by rfl, fun _ => ⟨by rfl, mid none⟩, fun _ => mid (some sd_)⟩
  · rintro env w' ⟨s, a, b, c, d, B, rfl⟩
    exact v6 q h2 B
include q h1 h2 in
theorem v2 (hw0 : w = fun _ => none) : les Phi_k03 b_k03_46_2 (defEnds Q E) [some (.val (.scr ns) false), some (.val (.int n) true), none, none, none, none, none, none, none] w := by
  subst hw0
  rw [b_k03_46_2]
  simp only [lev, levs, xSome, xInt, xBl, xLst, xTup, xScr, xDic, xObj, xVal, xPLst, xPMat, xPDic, xSlot, xSlotI, xFld, xOb, xNewFld, xR1, xR2, xR3, xR4, xK1, xK2, xN1, xN2, xN3, xN4, xN5, xN6, xT1, xT2, xC1, xC2, xC3, xC4, xC5, xC6, xC7, xC8, xC9, xC10, xB1, xB2, xB3, xB4, xB5, xB6, xB7, xI1, xI2, xI3, xL1, xL2, xL3, xL4, xL5, xL6, xSc, xFr, xZZ, xYY, xPar, sq_rt, sq_ex, sq_xk, nx_xk, xXk, sSkip, sSeq, sFrz, sAsg, sAsgL, sAsgD, sAsgM, sSetIx, sSetIx2, sSetAt, sSetAtL, sSetAtD, sSetAtM, sSetF, sSetF2, sExpr, sApp, sRev, sClr, sAppT, sClrT, sIf, sRet, sRetN, sRaise, D.nc, D.ncs, Wd.put_same, Wd.put_put, gS0, gS1, aA0, aA1, aA2, xS1, xS2, xS3, xS4, xS5, xS6, xS7, Phi_k03, List.set]
  intro pm hpm
  refine init_use Wd.put_same (by omega) (by omega) ⟨rfl, by rfl, ?_⟩
  rw [Wd.put_put, sq_nx, b_k03_46_3]
  simp only [lev, levs, xSome, xInt, xBl, xLst, xTup, xScr, xDic, xObj, xVal, xPLst, xPMat, xPDic, xSlot, xSlotI, xFld, xOb, xNewFld, xR1, xR2, xR3, xR4, xK1, xK2, xN1, xN2, xN3, xN4, xN5, xN6, xT1, xT2, xC1, xC2, xC3, xC4, xC5, xC6, xC7, xC8, xC9, xC10, xB1, xB2, xB3, xB4, xB5, xB6, xB7, xI1, xI2, xI3, xL1, xL2, xL3, xL4, xL5, xL6, xSc, xFr, xZZ, xYY, xPar, sq_rt, sq_ex, sq_xk, nx_xk, xXk, sSkip, sSeq, sFrz, sAsg, sAsgL, sAsgD, sAsgM, sSetIx, sSetIx2, sSetAt, sSetAtL, sSetAtD, sSetAtM, sSetF, sSetF2, sExpr, sApp, sRev, sClr, sAppT, sClrT, sIf, sRet, sRetN, sRaise, D.nc, D.ncs, Wd.put_same, Wd.put_put, gS0, gS1, aA0, aA1, aA2, xS1, xS2, xS3, xS4, xS5, xS6, xS7, Phi_k03, List.set]
  intro pb hpb
  have ne : pm ≠ pb := fun z => by rw [← z, Wd.put_same] at hpb; cases hpb
  have wf := Wf.empty (n := n) (by omega) (by omega)
  refine ⟨pb, pm, n, emptyM n, rfl, Wd.put_same, by rw [Wd.put_ne ne, Wd.put_same], wf, ⟨rfl, by rfl, ?_⟩⟩
  rw [Wd.put_put, sq_nx, b_k03_46_4]
  have B : Bd ((Wd.put (fun _ => none) pm (mapOb n (emptyM n))).put pb (boardOb pm (List.replicate n.toNat none))) pb pm n (emptyM n) (List.replicate n.toNat none) := ⟨Wd.put_same, by rw [Wd.put_ne ne, Wd.put_same], wf, by simp⟩
  simp only [lev, levs, xSome, xInt, xBl, xLst, xTup, xScr, xDic, xObj, xVal, xPLst, xPMat, xPDic, xSlot, xSlotI, xFld, xOb, xNewFld, xR1, xR2, xR3, xR4, xK1, xK2, xN1, xN2, xN3, xN4, xN5, xN6, xT1, xT2, xC1, xC2, xC3, xC4, xC5, xC6, xC7, xC8, xC9, xC10, xB1, xB2, xB3, xB4, xB5, xB6, xB7, xI1, xI2, xI3, xL1, xL2, xL3, xL4, xL5, xL6, xSc, xFr, xZZ, xYY, xPar, sq_rt, sq_ex, sq_xk, nx_xk, xXk, sSkip, sSeq, sFrz, sAsg, sAsgL, sAsgD, sAsgM, sSetIx, sSetIx2, sSetAt, sSetAtL, sSetAtD, sSetAtM, sSetF, sSetF2, sExpr, sApp, sRev, sClr, sAppT, sClrT, sIf, sRet, sRetN, sRaise, D.nc, D.ncs, Wd.put_same, Wd.put_put, gS0, gS1, aA0, aA1, aA2, xS1, xS2, xS3, xS4, xS5, xS6, xS7, List.set]
  have e : (List.replicate n.toNat (List.map (fun x : R => x.d) [{ d := D.non, z := true, y := true, f := false }])).flatten = (List.replicate n.toNat none).map sdD := by
    generalize n.toNat = k
    induction k with
    | zero => rfl
    | succ k ih => rw [List.replicate_succ, List.flatten_cons, ih, List.replicate_succ, List.map_cons]; rfl
  rw [e]
  refine ⟨by simp, by omega, by omega, by simp, by rfl, trivial, trivial, ncs_sd _, ?_⟩
  exact v5 q h1 h2 B
end
theorem ok_k03_46 : LOk Phi_k03 b_k03_46 1 8 (Phi_k03 46) := by
  rintro ds w Q E ⟨ns, rfl, hw0, q⟩
  refine ⟨rfl, ?_⟩
  unfold b_k03_46
  simp only [lev, levs, xSome, xInt, xBl, xLst, xTup, xScr, xDic, xObj, xVal, xPLst, xPMat, xPDic, xSlot, xSlotI, xFld, xOb, xNewFld, xR1, xR2, xR3, xR4, xK1, xK2, xN1, xN2, xN3, xN4, xN5, xN6, xT1, xT2, xC1, xC2, xC3, xC4, xC5, xC6, xC7, xC8, xC9, xC10, xB1, xB2, xB3, xB4, xB5, xB6, xB7, xI1, xI2, xI3, xL1, xL2, xL3, xL4, xL5, xL6, xSc, xFr, xZZ, xYY, xPar, sq_rt, sq_ex, sq_xk, nx_xk, xXk, sSkip, sSeq, sFrz, sAsg, sAsgL, sAsgD, sAsgM, sSetIx, sSetIx2, sSetAt, sSetAtL, sSetAtD, sSetAtM, sSetF, sSetF2, sExpr, sApp, sRev, sClr, sAppT, sClrT, sIf, sRet, sRetN, sRaise, D.nc, D.ncs, Wd.put_same, Wd.put_put, gS0, gS1, aA0, aA1, aA2, xS1, xS2, xS3, xS4, xS5, xS6, xS7, Phi_k03, List.map_cons, List.map_nil, List.cons_append, List.nil_append, List.replicate]
  refine ⟨ns, 0, rfl, by omega, ?_⟩
  simp only [lev, levs, xSome, xInt, xBl, xLst, xTup, xScr, xDic, xObj, xVal, xPLst, xPMat, xPDic, xSlot, xSlotI, xFld, xOb, xNewFld, xR1, xR2, xR3, xR4, xK1, xK2, xN1, xN2, xN3, xN4, xN5, xN6, xT1, xT2, xC1, xC2, xC3, xC4, xC5, xC6, xC7, xC8, xC9, xC10, xB1, xB2, xB3, xB4, xB5, xB6, xB7, xI1, xI2, xI3, xL1, xL2, xL3, xL4, xL5, xL6, xSc, xFr, xZZ, xYY, xPar, sq_rt, sq_ex, sq_xk, nx_xk, xXk, sSkip, sSeq, sFrz, sAsg, sAsgL, sAsgD, sAsgM, sSetIx, sSetIx2, sSetAt, sSetAtL, sSetAtD, sSetAtM, sSetF, sSetF2, sExpr, sApp, sRev, sClr, sAppT, sClrT, sIf, sRet, sRetN, sRaise, D.nc, D.ncs, Wd.put_same, Wd.put_put, gS0, gS1, aA0, aA1, aA2, xS1, xS2, xS3, xS4, xS5, xS6, xS7]
  refine ⟨by omega, by omega, by omega, by rfl, ?_⟩
  rw [sq_nx, b_k03_46_1]
  simp only [lev, levs, xSome, xInt, xBl, xLst, xTup, xScr, xDic, xObj, xVal, xPLst, xPMat, xPDic, xSlot, xSlotI, xFld, xOb, xNewFld, xR1, xR2, xR3, xR4, xK1, xK2, xN1, xN2, xN3, xN4, xN5, xN6, xT1, xT2, xC1, xC2, xC3, xC4, xC5, xC6, xC7, xC8, xC9, xC10, xB1, xB2, xB3, xB4, xB5, xB6, xB7, xI1, xI2, xI3, xL1, xL2, xL3, xL4, xL5, xL6, xSc, xFr, xZZ, xYY, xPar, sq_rt, sq_ex, sq_xk, nx_xk, xXk, sSkip, sSeq, sFrz, sAsg, sAsgL, sAsgD, sAsgM, sSetIx, sSetIx2, sSetAt, sSetAtL, sSetAtD, sSetAtM, sSetF, sSetF2, sExpr, sApp, sRev, sClr, sAppT, sClrT, sIf, sRet, sRetN, sRaise, D.nc, D.ncs, Wd.put_same, Wd.put_put, gS0, gS1, aA0, aA1, aA2, xS1, xS2, xS3, xS4, xS5, xS6, xS7, Phi_k03, List.set]
  refine ⟨ns, 0, rfl, by omega, ?_⟩
  simp only [lev, levs, xSome, xInt, xBl, xLst, xTup, xScr, xDic, xObj, xVal, xPLst, xPMat, xPDic, xSlot, xSlotI, xFld, xOb, xNewFld, xR1, xR2, xR3, xR4, xK1, xK2, xN1, xN2, xN3, xN4, xN5, xN6, xT1, xT2, xC1, xC2, xC3, xC4, xC5, xC6, xC7, xC8, xC9, xC10, xB1, xB2, xB3, xB4, xB5, xB6, xB7, xI1, xI2, xI3, xL1, xL2, xL3, xL4, xL5, xL6, xSc, xFr, xZZ, xYY, xPar, sq_rt, sq_ex, sq_xk, nx_xk, xXk, sSkip, sSeq, sFrz, sAsg, sAsgL, sAsgD, sAsgM, sSetIx, sSetIx2, sSetAt, sSetAtL, sSetAtD, sSetAtM, sSetF, sSetF2, sExpr, sApp, sRev, sClr, sAppT, sClrT, sIf, sRet, sRetN, sRaise, D.nc, D.ncs, Wd.put_same, Wd.put_put, gS0, gS1, aA0, aA1, aA2, xS1, xS2, xS3, xS4, xS5, xS6, xS7]
  refine ⟨by omega, by rfl, by rfl, fun _ => ?_, fun _ => ?_⟩
  · refine ⟨ns, 0, rfl, by omega, ?_⟩
    simp only [lev, levs, xSome, xInt, xBl, xLst, xTup, xScr, xDic, xObj, xVal, xPLst, xPMat, xPDic, xSlot, xSlotI, xFld, xOb, xNewFld, xR1, xR2, xR3, xR4, xK1, xK2, xN1, xN2, xN3, xN4, xN5, xN6, xT1, xT2, xC1, xC2, xC3, xC4, xC5, xC6, xC7, xC8, xC9, xC10, xB1, xB2, xB3, xB4, xB5, xB6, xB7, xI1, xI2, xI3, xL1, xL2, xL3, xL4, xL5, xL6, xSc, xFr, xZZ, xYY, xPar, sq_rt, sq_ex, sq_xk, nx_xk, xXk, sSkip, sSeq, sFrz, sAsg, sAsgL, sAsgD, sAsgM, sSetIx, sSetIx2, sSetAt, sSetAtL, sSetAtD, sSetAtM, sSetF, sSetF2, sExpr, sApp, sRev, sClr, sAppT, sClrT, sIf, sRet, sRetN, sRaise, D.nc, D.ncs, Wd.put_same, Wd.put_put, gS0, gS1, aA0, aA1, aA2, xS1, xS2, xS3, xS4, xS5, xS6, xS7, List.set]
    refine ⟨by omega, by omega, by omega, by rfl, ?_⟩
    exact v2 q (by omega) (by omega) hw0
  · exact v2 q (by omega) (by omega) hw0
theorem law_k03 : ∀ ns : List Int, ns.length ≤ 63 → Phi_k03 46 [.scr ns] (fun _ => none) (fun d _ => d = .bl true) fun _ _ => False := fun ns _ => ⟨ns, rfl, rfl, fun _ => rfl⟩
end LL
end
set_option Elab.async false
set_option linter.all false
set_option maxRecDepth 100000
set_option maxHeartbeats 4000000
/-! the rows of the linked text, and the end -/
namespace LL
open PySem L2 PySem.Spec PyProof.Rows
def topS (i : Nat) : Stmt := PySem.Challenge.pw_atonce_k03_units_posted.main.body.getD i (.Pass ⟨0, 0, 0, 0⟩)
def nmF : Nat → Str
  | 0 => "__init__"
  | 1 => "known"
  | 5 => "__init__"
  | 6 => "post"
  | 7 => "side_at"
  | 8 => "lift"
  | 9 => "roll"
  | 41 => "_law_cell_at"
  | 42 => "_law_whole"
  | 43 => "_law_done"
  | 44 => "_law_due"
  | 45 => "_law_roll"
  | 46 => "law"
  | _ => ""
def cnF : Cl → Str
  | .map => "Map"
  | .board => "Board"
  | .orders => "Orders"
  | .turn => "Turn"
def xnF : Ex → Str
  | .noPlace => "NoPlace"
  | .noSide => "NoSide"
  | .crowded => "Crowded"
  | .noUnit => "NoUnit"
  | .outOfReach => "OutOfReach"
def fxF : Ex → Bool
  | .noPlace => true
  | .noSide => true
  | .crowded => true
  | .noUnit => true
  | .outOfReach => true
abbrev nms : Nms := ⟨nmF, cnF, xnF, fxF⟩
def hcF : Cl → Bool
  | .map => true
  | .board => true
  | .orders => false
  | .turn => false
abbrev st_41 : Stmt := topS 13
def cl_41 : List (Kd × Nat) := []
theorem sk_41 : scopeOk ["script", "k"] ["script", "k"] (defScope st_41) = true := by decide +kernel
theorem ck_41 : chkB false "OrderError" b_k03_41 (ccOf nms cl_41 ["script", "k"] (defScope st_41)) (defBody st_41) = true := by decide +kernel
abbrev st_1 : Stmt := inClass (topS 11) 1
def cl_1 : List (Kd × Nat) := []
theorem sk_1 : scopeOk ["self", "at"] ["self", "at"] (defScope st_1) = true := by decide +kernel
theorem ck_1 : chkB false "OrderError" b_1 (ccOf nms cl_1 ["self", "at"] (defScope st_1)) (defBody st_1) = true := by decide +kernel
abbrev st_6 : Stmt := inClass (topS 9) 1
def cl_6 : List (Kd × Nat) := [(.m .map, 1)]
theorem sk_6 : scopeOk ["self", "at", "side"] ["self", "at", "side"] (defScope st_6) = true := by decide +kernel
theorem ck_6 : chkB false "OrderError" b_6 (ccOf nms cl_6 ["self", "at", "side"] (defScope st_6)) (defBody st_6) = true := by decide +kernel
abbrev st_8 : Stmt := inClass (topS 9) 3
def cl_8 : List (Kd × Nat) := [(.m .map, 1)]
theorem sk_8 : scopeOk ["self", "at"] ["self", "at"] (defScope st_8) = true := by decide +kernel
theorem ck_8 : chkB false "OrderError" b_8 (ccOf nms cl_8 ["self", "at"] (defScope st_8)) (defBody st_8) = true := by decide +kernel
abbrev st_43 : Stmt := topS 15
def cl_43 : List (Kd × Nat) := [(.m .board, 6), (.m .board, 8)]
theorem sk_43 : scopeOk ["board", "at", "side", "found", "e"] ["board", "at", "side"] (defScope st_43) = true := by decide +kernel
theorem ck_43 : chkB true "OrderError" b_k03_43 (ccOf nms cl_43 ["board", "at", "side", "found", "e"] (defScope st_43)) (defBody st_43) = true := by decide +kernel
abbrev st_44 : Stmt := topS 16
def cl_44 : List (Kd × Nat) := []
theorem sk_44 : scopeOk ["sides", "at", "side"] ["sides", "at", "side"] (defScope st_44) = true := by decide +kernel
theorem ck_44 : chkB false "OrderError" b_k03_44 (ccOf nms cl_44 ["sides", "at", "side"] (defScope st_44)) (defBody st_44) = true := by decide +kernel
abbrev st_42 : Stmt := topS 14
def cl_42 : List (Kd × Nat) := []
theorem sk_42 : scopeOk ["found"] ["found"] (defScope st_42) = true := by decide +kernel
theorem ck_42 : chkB false "OrderError" b_k03_42 (ccOf nms cl_42 ["found"] (defScope st_42)) (defBody st_42) = true := by decide +kernel
abbrev st_45 : Stmt := topS 17
def cl_45 : List (Kd × Nat) := [(.d, 42)]
theorem sk_45 : scopeOk ["found", "sides", "due", "k"] ["found", "sides"] (defScope st_45) = true := by decide +kernel
theorem ck_45 : chkB false "OrderError" b_k03_45 (ccOf nms cl_45 ["found", "sides", "due", "k"] (defScope st_45)) (defBody st_45) = true := by decide +kernel
abbrev st_7 : Stmt := inClass (topS 9) 2
def cl_7 : List (Kd × Nat) := [(.m .map, 1)]
theorem sk_7 : scopeOk ["self", "at"] ["self", "at"] (defScope st_7) = true := by decide +kernel
theorem ck_7 : chkB false "OrderError" b_7 (ccOf nms cl_7 ["self", "at"] (defScope st_7)) (defBody st_7) = true := by decide +kernel
abbrev st_9 : Stmt := inClass (topS 9) 4
def cl_9 : List (Kd × Nat) := []
theorem sk_9 : scopeOk ["self", "at"] ["self"] (defScope st_9) = true := by decide +kernel
theorem ck_9 : chkB false "OrderError" b_9 (ccOf nms cl_9 ["self", "at"] (defScope st_9)) (defBody st_9) = true := by decide +kernel
abbrev st_5 : Stmt := inClass (topS 9) 0
def cl_5 : List (Kd × Nat) := []
theorem sk_5 : scopeOk ["self", "chart"] ["self", "chart"] (defScope st_5) = true := by decide +kernel
theorem ck_5 : chkB false "OrderError" b_5 (ccOf nms cl_5 ["self", "chart"] (defScope st_5)) (defBody st_5) = true := by decide +kernel
abbrev st_0 : Stmt := inClass (topS 11) 0
def cl_0 : List (Kd × Nat) := []
theorem sk_0 : scopeOk ["self", "size", "k"] ["self", "size"] (defScope st_0) = true := by decide +kernel
theorem ck_0 : chkB false "OrderError" b_0 (ccOf nms cl_0 ["self", "size", "k"] (defScope st_0)) (defBody st_0) = true := by decide +kernel
abbrev st_46 : Stmt := topS 18
def cl_46 : List (Kd × Nat) := [(.d, 41), (.d, 43), (.d, 44), (.d, 45), (.m .board, 7), (.m .board, 9), (.n .board, 5), (.n .map, 0)]
theorem sk_46 : scopeOk ["script", "size", "chart", "board", "sides", "cell", "at", "side", "due"] ["script"] (defScope st_46) = true := by decide +kernel
theorem ck_46 : chkB false "OrderError" b_k03_46 (ccOf nms cl_46 ["script", "size", "chart", "board", "sides", "cell", "at", "side", "due"] (defScope st_46)) (defBody st_46) = true := by decide +kernel
theorem all_mk {l : PySem.W.OpenLaw} {w : World} {K : PySem.W.Frag} {h : Heap} {mg : Str → Option Value} {fa kBoard kMap xNoPlace xNoSide xCrowded xNoUnit xOutOfReach xOE f41 f1 f6 f8 f43 f44 f42 f45 f7 f9 f5 f0 f46 : Addr} (X : K.In h) (G : h.Ns mainGlobals mg) (hfa : mg "law" = some (.ref fa))
    {od41 an41 od1 an1 od6 an6 od8 an8 od43 an43 od44 an44 od42 an42 od45 an45 od7 an7 od9 an9 od5 an5 od0 an0 od46 an46 : Option Addr} {sl41 sl1 sl6 sl8 sl43 sl44 sl42 sl45 sl7 sl9 sl5 sl0 sl46 : Array (Option Value)} {oc41 kV41 dc41 pm41 cd41 ct41 oc1 kV1 dc1 pm1 cd1 ct1 oc6 kV6 dc6 pm6 cd6 ct6 oc8 kV8 dc8 pm8 cd8 ct8 oc43 kV43 dc43 pm43 cd43 ct43 oc44 kV44 dc44 pm44 cd44 ct44 oc42 kV42 dc42 pm42 cd42 ct42 oc45 kV45 dc45 pm45 cd45 ct45 oc7 kV7 dc7 pm7 cd7 ct7 oc9 kV9 dc9 pm9 cd9 ct9 oc5 kV5 dc5 pm5 cd5 ct5 oc0 kV0 dc0 pm0 cd0 ct0 oc46 kV46 dc46 pm46 cd46 ct46 : Value}
    (aBoard : PySem.W.nsIn K mainGlobals "Board" = some (some (.ref kBoard)))
    (aMap : PySem.W.nsIn K mainGlobals "Map" = some (some (.ref kMap)))
    (aNoPlace : PySem.W.nsIn K mainGlobals "NoPlace" = some (some (.ref xNoPlace)))
    (qNoPlace : PySem.W.excIn K xNoPlace [.type "ValueError", .type "Exception", .type "BaseException", .type "object"] "ValueError.__new__" = true)
    (e1NoPlace : PySem.W.keepIn K (.ref xNoPlace) = true)
    (e2NoPlace : PySem.W.subIn K (.ref xNoPlace) (.type "BaseException") = some true)
    (e3NoPlace : PySem.W.typeIn K (.ref xNoPlace) = some (.type "type"))
    (aNoSide : PySem.W.nsIn K mainGlobals "NoSide" = some (some (.ref xNoSide)))
    (qNoSide : PySem.W.excIn K xNoSide [.type "ValueError", .type "Exception", .type "BaseException", .type "object"] "ValueError.__new__" = true)
    (e1NoSide : PySem.W.keepIn K (.ref xNoSide) = true)
    (e2NoSide : PySem.W.subIn K (.ref xNoSide) (.type "BaseException") = some true)
    (e3NoSide : PySem.W.typeIn K (.ref xNoSide) = some (.type "type"))
    (aCrowded : PySem.W.nsIn K mainGlobals "Crowded" = some (some (.ref xCrowded)))
    (qCrowded : PySem.W.excIn K xCrowded [.type "ValueError", .type "Exception", .type "BaseException", .type "object"] "ValueError.__new__" = true)
    (e1Crowded : PySem.W.keepIn K (.ref xCrowded) = true)
    (e2Crowded : PySem.W.subIn K (.ref xCrowded) (.type "BaseException") = some true)
    (e3Crowded : PySem.W.typeIn K (.ref xCrowded) = some (.type "type"))
    (aNoUnit : PySem.W.nsIn K mainGlobals "NoUnit" = some (some (.ref xNoUnit)))
    (qNoUnit : PySem.W.excIn K xNoUnit [.type "ValueError", .type "Exception", .type "BaseException", .type "object"] "ValueError.__new__" = true)
    (e1NoUnit : PySem.W.keepIn K (.ref xNoUnit) = true)
    (e2NoUnit : PySem.W.subIn K (.ref xNoUnit) (.type "BaseException") = some true)
    (e3NoUnit : PySem.W.typeIn K (.ref xNoUnit) = some (.type "type"))
    (aOutOfReach : PySem.W.nsIn K mainGlobals "OutOfReach" = some (some (.ref xOutOfReach)))
    (qOutOfReach : PySem.W.excIn K xOutOfReach [.type "ValueError", .type "Exception", .type "BaseException", .type "object"] "ValueError.__new__" = true)
    (e1OutOfReach : PySem.W.keepIn K (.ref xOutOfReach) = true)
    (e2OutOfReach : PySem.W.subIn K (.ref xOutOfReach) (.type "BaseException") = some true)
    (e3OutOfReach : PySem.W.typeIn K (.ref xOutOfReach) = some (.type "type"))
    (a41 : PySem.W.nsIn K mainGlobals "_law_cell_at" = some (some (.ref f41)))
    (l41 : K.lookup f41 = some ⟨oc41, od41, .func (PySem.W.fnOf "_law_cell_at" "_law_cell_at" (defArgs st_41) (defBody st_41) (defScope st_41) .none kV41 dc41 pm41 an41 cd41 ct41), sl41⟩)
    (c41 : PySem.W.codeIn K cd41 "_law_cell_at" = true)
    (k41 : PySem.W.keepIn K (.ref f41) = true)
    (a1 : PySem.W.findIn K (.ref kMap) "known" = some (some (.ref f1)))
    (i1 : PySem.W.isFn K (.ref f1) = true)
    (l1 : K.lookup f1 = some ⟨oc1, od1, .func (PySem.W.fnOf "known" "Map.known" (defArgs st_1) (defBody st_1) (defScope st_1) .none kV1 dc1 pm1 an1 cd1 ct1), sl1⟩)
    (c1 : PySem.W.codeIn K cd1 "Map.known" = true)
    (k1 : PySem.W.keepIn K (.ref f1) = true)
    (a6 : PySem.W.findIn K (.ref kBoard) "post" = some (some (.ref f6)))
    (i6 : PySem.W.isFn K (.ref f6) = true)
    (l6 : K.lookup f6 = some ⟨oc6, od6, .func (PySem.W.fnOf "post" "Board.post" (defArgs st_6) (defBody st_6) (defScope st_6) .none kV6 dc6 pm6 an6 cd6 ct6), sl6⟩)
    (c6 : PySem.W.codeIn K cd6 "Board.post" = true)
    (k6 : PySem.W.keepIn K (.ref f6) = true)
    (a8 : PySem.W.findIn K (.ref kBoard) "lift" = some (some (.ref f8)))
    (i8 : PySem.W.isFn K (.ref f8) = true)
    (l8 : K.lookup f8 = some ⟨oc8, od8, .func (PySem.W.fnOf "lift" "Board.lift" (defArgs st_8) (defBody st_8) (defScope st_8) .none kV8 dc8 pm8 an8 cd8 ct8), sl8⟩)
    (c8 : PySem.W.codeIn K cd8 "Board.lift" = true)
    (k8 : PySem.W.keepIn K (.ref f8) = true)
    (a43 : PySem.W.nsIn K mainGlobals "_law_done" = some (some (.ref f43)))
    (l43 : K.lookup f43 = some ⟨oc43, od43, .func (PySem.W.fnOf "_law_done" "_law_done" (defArgs st_43) (defBody st_43) (defScope st_43) .none kV43 dc43 pm43 an43 cd43 ct43), sl43⟩)
    (c43 : PySem.W.codeIn K cd43 "_law_done" = true)
    (k43 : PySem.W.keepIn K (.ref f43) = true)
    (a44 : PySem.W.nsIn K mainGlobals "_law_due" = some (some (.ref f44)))
    (l44 : K.lookup f44 = some ⟨oc44, od44, .func (PySem.W.fnOf "_law_due" "_law_due" (defArgs st_44) (defBody st_44) (defScope st_44) .none kV44 dc44 pm44 an44 cd44 ct44), sl44⟩)
    (c44 : PySem.W.codeIn K cd44 "_law_due" = true)
    (k44 : PySem.W.keepIn K (.ref f44) = true)
    (a42 : PySem.W.nsIn K mainGlobals "_law_whole" = some (some (.ref f42)))
    (l42 : K.lookup f42 = some ⟨oc42, od42, .func (PySem.W.fnOf "_law_whole" "_law_whole" (defArgs st_42) (defBody st_42) (defScope st_42) .none kV42 dc42 pm42 an42 cd42 ct42), sl42⟩)
    (c42 : PySem.W.codeIn K cd42 "_law_whole" = true)
    (k42 : PySem.W.keepIn K (.ref f42) = true)
    (a45 : PySem.W.nsIn K mainGlobals "_law_roll" = some (some (.ref f45)))
    (l45 : K.lookup f45 = some ⟨oc45, od45, .func (PySem.W.fnOf "_law_roll" "_law_roll" (defArgs st_45) (defBody st_45) (defScope st_45) .none kV45 dc45 pm45 an45 cd45 ct45), sl45⟩)
    (c45 : PySem.W.codeIn K cd45 "_law_roll" = true)
    (k45 : PySem.W.keepIn K (.ref f45) = true)
    (a7 : PySem.W.findIn K (.ref kBoard) "side_at" = some (some (.ref f7)))
    (i7 : PySem.W.isFn K (.ref f7) = true)
    (l7 : K.lookup f7 = some ⟨oc7, od7, .func (PySem.W.fnOf "side_at" "Board.side_at" (defArgs st_7) (defBody st_7) (defScope st_7) .none kV7 dc7 pm7 an7 cd7 ct7), sl7⟩)
    (c7 : PySem.W.codeIn K cd7 "Board.side_at" = true)
    (k7 : PySem.W.keepIn K (.ref f7) = true)
    (a9 : PySem.W.findIn K (.ref kBoard) "roll" = some (some (.ref f9)))
    (i9 : PySem.W.isFn K (.ref f9) = true)
    (l9 : K.lookup f9 = some ⟨oc9, od9, .func (PySem.W.fnOf "roll" "Board.roll" (defArgs st_9) (defBody st_9) (defScope st_9) .none kV9 dc9 pm9 an9 cd9 ct9), sl9⟩)
    (c9 : PySem.W.codeIn K cd9 "Board.roll" = true)
    (k9 : PySem.W.keepIn K (.ref f9) = true)
    (a5 : PySem.W.findIn K (.ref kBoard) "__init__" = some (some (.ref f5)))
    (i5 : PySem.W.isFn K (.ref f5) = true)
    (l5 : K.lookup f5 = some ⟨oc5, od5, .func (PySem.W.fnOf "__init__" "Board.__init__" (defArgs st_5) (defBody st_5) (defScope st_5) .none kV5 dc5 pm5 an5 cd5 ct5), sl5⟩)
    (c5 : PySem.W.codeIn K cd5 "Board.__init__" = true)
    (k5 : PySem.W.keepIn K (.ref f5) = true)
    (a0 : PySem.W.findIn K (.ref kMap) "__init__" = some (some (.ref f0)))
    (i0 : PySem.W.isFn K (.ref f0) = true)
    (l0 : K.lookup f0 = some ⟨oc0, od0, .func (PySem.W.fnOf "__init__" "Map.__init__" (defArgs st_0) (defBody st_0) (defScope st_0) .none kV0 dc0 pm0 an0 cd0 ct0), sl0⟩)
    (c0 : PySem.W.codeIn K cd0 "Map.__init__" = true)
    (k0 : PySem.W.keepIn K (.ref f0) = true)
    (a46 : PySem.W.nsIn K mainGlobals "law" = some (some (.ref f46)))
    (l46 : K.lookup f46 = some ⟨oc46, od46, .func (PySem.W.fnOf "law" "law" (defArgs st_46) (defBody st_46) (defScope st_46) .none kV46 dc46 pm46 an46 cd46 ct46), sl46⟩)
    (c46 : PySem.W.codeIn K cd46 "law" = true)
    (k46 : PySem.W.keepIn K (.ref f46) = true)
    (pgBoard : PySem.W.plainGet K kBoard Str.empty = true)
    (hdBoard : PySem.W.hasDictIn K kBoard = true)
    (poBoard : PySem.W.plainOver K kBoard = true)
    (saBoard : PySem.W.findIn K (.ref kBoard) "__setattr__" = some (some (.builtin "object.__setattr__")))
    (mkBoard : PySem.W.makesIn K kBoard = true)
    (kcBoard : PySem.W.keepIn K (.ref kBoard) = true)
    (nsizeBoard : PySem.W.findIn K (.ref kBoard) "size" = some none)
    (nrowsBoard : PySem.W.findIn K (.ref kBoard) "rows" = some none)
    (nchartBoard : PySem.W.findIn K (.ref kBoard) "chart" = some none)
    (nsidesBoard : PySem.W.findIn K (.ref kBoard) "sides" = some none)
    (nboardBoard : PySem.W.findIn K (.ref kBoard) "board" = some none)
    (ngivenBoard : PySem.W.findIn K (.ref kBoard) "given" = some none)
    (nstepsBoard : PySem.W.findIn K (.ref kBoard) "steps" = some none)
    (nclosedBoard : PySem.W.findIn K (.ref kBoard) "closed" = some none)
    (noutBoard : PySem.W.findIn K (.ref kBoard) "out" = some none)
    (pgMap : PySem.W.plainGet K kMap Str.empty = true)
    (hdMap : PySem.W.hasDictIn K kMap = true)
    (poMap : PySem.W.plainOver K kMap = true)
    (saMap : PySem.W.findIn K (.ref kMap) "__setattr__" = some (some (.builtin "object.__setattr__")))
    (mkMap : PySem.W.makesIn K kMap = true)
    (kcMap : PySem.W.keepIn K (.ref kMap) = true)
    (nsizeMap : PySem.W.findIn K (.ref kMap) "size" = some none)
    (nrowsMap : PySem.W.findIn K (.ref kMap) "rows" = some none)
    (nchartMap : PySem.W.findIn K (.ref kMap) "chart" = some none)
    (nsidesMap : PySem.W.findIn K (.ref kMap) "sides" = some none)
    (nboardMap : PySem.W.findIn K (.ref kMap) "board" = some none)
    (ngivenMap : PySem.W.findIn K (.ref kMap) "given" = some none)
    (nstepsMap : PySem.W.findIn K (.ref kMap) "steps" = some none)
    (nclosedMap : PySem.W.findIn K (.ref kMap) "closed" = some none)
    (noutMap : PySem.W.findIn K (.ref kMap) "out" = some none)
    (zlen : PySem.W.nsIn K mainGlobals "len" = some none)
    (zsorted : PySem.W.nsIn K mainGlobals "sorted" = some none)
    (zlist : PySem.W.nsIn K mainGlobals "list" = some none)
    (zmin : PySem.W.nsIn K mainGlobals "min" = some none)
    (zmax : PySem.W.nsIn K mainGlobals "max" = some none)
    (zint : PySem.W.nsIn K mainGlobals "int" = some none)
    (zisinstance : PySem.W.nsIn K mainGlobals "isinstance" = some none)
    (zrange : PySem.W.nsIn K mainGlobals "range" = some none)
    (zbool : PySem.W.nsIn K mainGlobals "bool" = some none)
    (ztuple : PySem.W.nsIn K mainGlobals "tuple" = some none)
    (zstr : PySem.W.nsIn K mainGlobals "str" = some none)
    (zValueError : PySem.W.nsIn K mainGlobals "ValueError" = some none)
    (aOE : PySem.W.nsIn K mainGlobals "OrderError" = some (some (.ref xOE)))
    (y1NoPlace : PySem.W.findIn K (.ref xNoPlace) "__getattribute__" = some (some (.builtin "BaseException.__getattribute__")))
    (y2NoPlace : PySem.W.findIn K (.ref xNoPlace) "__getattr__" = some none)
    (y3NoPlace : PySem.W.hasDictIn K xNoPlace = true)
    (y4NoPlace : PySem.W.findIn K (.ref xNoPlace) "__class__" = some (some (.builtin "object.__class__")))
    (y5NoPlace : PySem.W.mroIn K xNoPlace (.type "object") = some true)
    (y6NoPlace : PySem.W.subIn K (.ref xNoPlace) (.type "ValueError") = some true)
    (y7NoPlace : PySem.W.subIn K (.ref xNoPlace) (.ref xOE) = some true)
    (wNoPlaceNoPlace : PySem.W.subIn K (.ref xNoPlace) (.ref xNoPlace) = some true)
    (wNoPlaceNoSide : PySem.W.subIn K (.ref xNoPlace) (.ref xNoSide) = some false)
    (wNoPlaceCrowded : PySem.W.subIn K (.ref xNoPlace) (.ref xCrowded) = some false)
    (wNoPlaceNoUnit : PySem.W.subIn K (.ref xNoPlace) (.ref xNoUnit) = some false)
    (wNoPlaceOutOfReach : PySem.W.subIn K (.ref xNoPlace) (.ref xOutOfReach) = some false)
    (y1NoSide : PySem.W.findIn K (.ref xNoSide) "__getattribute__" = some (some (.builtin "BaseException.__getattribute__")))
    (y2NoSide : PySem.W.findIn K (.ref xNoSide) "__getattr__" = some none)
    (y3NoSide : PySem.W.hasDictIn K xNoSide = true)
    (y4NoSide : PySem.W.findIn K (.ref xNoSide) "__class__" = some (some (.builtin "object.__class__")))
    (y5NoSide : PySem.W.mroIn K xNoSide (.type "object") = some true)
    (y6NoSide : PySem.W.subIn K (.ref xNoSide) (.type "ValueError") = some true)
    (y7NoSide : PySem.W.subIn K (.ref xNoSide) (.ref xOE) = some true)
    (wNoSideNoPlace : PySem.W.subIn K (.ref xNoSide) (.ref xNoPlace) = some false)
    (wNoSideNoSide : PySem.W.subIn K (.ref xNoSide) (.ref xNoSide) = some true)
    (wNoSideCrowded : PySem.W.subIn K (.ref xNoSide) (.ref xCrowded) = some false)
    (wNoSideNoUnit : PySem.W.subIn K (.ref xNoSide) (.ref xNoUnit) = some false)
    (wNoSideOutOfReach : PySem.W.subIn K (.ref xNoSide) (.ref xOutOfReach) = some false)
    (y1Crowded : PySem.W.findIn K (.ref xCrowded) "__getattribute__" = some (some (.builtin "BaseException.__getattribute__")))
    (y2Crowded : PySem.W.findIn K (.ref xCrowded) "__getattr__" = some none)
    (y3Crowded : PySem.W.hasDictIn K xCrowded = true)
    (y4Crowded : PySem.W.findIn K (.ref xCrowded) "__class__" = some (some (.builtin "object.__class__")))
    (y5Crowded : PySem.W.mroIn K xCrowded (.type "object") = some true)
    (y6Crowded : PySem.W.subIn K (.ref xCrowded) (.type "ValueError") = some true)
    (y7Crowded : PySem.W.subIn K (.ref xCrowded) (.ref xOE) = some true)
    (wCrowdedNoPlace : PySem.W.subIn K (.ref xCrowded) (.ref xNoPlace) = some false)
    (wCrowdedNoSide : PySem.W.subIn K (.ref xCrowded) (.ref xNoSide) = some false)
    (wCrowdedCrowded : PySem.W.subIn K (.ref xCrowded) (.ref xCrowded) = some true)
    (wCrowdedNoUnit : PySem.W.subIn K (.ref xCrowded) (.ref xNoUnit) = some false)
    (wCrowdedOutOfReach : PySem.W.subIn K (.ref xCrowded) (.ref xOutOfReach) = some false)
    (y1NoUnit : PySem.W.findIn K (.ref xNoUnit) "__getattribute__" = some (some (.builtin "BaseException.__getattribute__")))
    (y2NoUnit : PySem.W.findIn K (.ref xNoUnit) "__getattr__" = some none)
    (y3NoUnit : PySem.W.hasDictIn K xNoUnit = true)
    (y4NoUnit : PySem.W.findIn K (.ref xNoUnit) "__class__" = some (some (.builtin "object.__class__")))
    (y5NoUnit : PySem.W.mroIn K xNoUnit (.type "object") = some true)
    (y6NoUnit : PySem.W.subIn K (.ref xNoUnit) (.type "ValueError") = some true)
    (y7NoUnit : PySem.W.subIn K (.ref xNoUnit) (.ref xOE) = some true)
    (wNoUnitNoPlace : PySem.W.subIn K (.ref xNoUnit) (.ref xNoPlace) = some false)
    (wNoUnitNoSide : PySem.W.subIn K (.ref xNoUnit) (.ref xNoSide) = some false)
    (wNoUnitCrowded : PySem.W.subIn K (.ref xNoUnit) (.ref xCrowded) = some false)
    (wNoUnitNoUnit : PySem.W.subIn K (.ref xNoUnit) (.ref xNoUnit) = some true)
    (wNoUnitOutOfReach : PySem.W.subIn K (.ref xNoUnit) (.ref xOutOfReach) = some false)
    (y1OutOfReach : PySem.W.findIn K (.ref xOutOfReach) "__getattribute__" = some (some (.builtin "BaseException.__getattribute__")))
    (y2OutOfReach : PySem.W.findIn K (.ref xOutOfReach) "__getattr__" = some none)
    (y3OutOfReach : PySem.W.hasDictIn K xOutOfReach = true)
    (y4OutOfReach : PySem.W.findIn K (.ref xOutOfReach) "__class__" = some (some (.builtin "object.__class__")))
    (y5OutOfReach : PySem.W.mroIn K xOutOfReach (.type "object") = some true)
    (y6OutOfReach : PySem.W.subIn K (.ref xOutOfReach) (.type "ValueError") = some true)
    (y7OutOfReach : PySem.W.subIn K (.ref xOutOfReach) (.ref xOE) = some true)
    (wOutOfReachNoPlace : PySem.W.subIn K (.ref xOutOfReach) (.ref xNoPlace) = some false)
    (wOutOfReachNoSide : PySem.W.subIn K (.ref xOutOfReach) (.ref xNoSide) = some false)
    (wOutOfReachCrowded : PySem.W.subIn K (.ref xOutOfReach) (.ref xCrowded) = some false)
    (wOutOfReachNoUnit : PySem.W.subIn K (.ref xOutOfReach) (.ref xNoUnit) = some false)
    (wOutOfReachOutOfReach : PySem.W.subIn K (.ref xOutOfReach) (.ref xOutOfReach) = some true)
    (yb : PySem.W.subIn K (.ref xOE) (.type "BaseException") = some true)
    (yd : PySem.W.hasDictIn K xOE = true)
    (yy : PySem.W.typeIn K (.ref xOE) = some (.type "type"))
    (yn : PySem.W.specialIn K (.builtin "object.__class__") "__get__" = some (some (.builtin "getset_descriptor.__get__")))
    (yt : PySem.W.takesIn K (.builtin "object.__class__") = some true)
    : ∃ fd : FuncData, (∀ (s : Shared) (v : Value), BindsTo s fd ⟨[v], []⟩ [("script", v)]) ∧ ∃ G0 : SG, G0.K = K ∧ ∀ base : Heap, K.In base → base.Ns mainGlobals mg → FnOk l.prog w K mg base (L2.CX l.prog w) 8 fa fd ["script"] (liftSp G0 (Phi_k03 46)) := by
  have e := hfa.symm.trans (PySem.W.mg_of X G a46)
  cases e
  have F41 := fun_mk (st := st_41) l41 c41 k41
  have b41 := F41.binds (ps := ["script", "k"]) fun _ _ _ _ _ _ us hl => match us, hl with | [_, _], _ => rfl
  have F1 := fun_mk (st := st_1) l1 c1 k1
  have b1 := F1.binds (ps := ["self", "at"]) fun _ _ _ _ _ _ us hl => match us, hl with | [_, _], _ => rfl
  have F6 := fun_mk (st := st_6) l6 c6 k6
  have b6 := F6.binds (ps := ["self", "at", "side"]) fun _ _ _ _ _ _ us hl => match us, hl with | [_, _, _], _ => rfl
  have F8 := fun_mk (st := st_8) l8 c8 k8
  have b8 := F8.binds (ps := ["self", "at"]) fun _ _ _ _ _ _ us hl => match us, hl with | [_, _], _ => rfl
  have F43 := fun_mk (st := st_43) l43 c43 k43
  have b43 := F43.binds (ps := ["board", "at", "side"]) fun _ _ _ _ _ _ us hl => match us, hl with | [_, _, _], _ => rfl
  have F44 := fun_mk (st := st_44) l44 c44 k44
  have b44 := F44.binds (ps := ["sides", "at", "side"]) fun _ _ _ _ _ _ us hl => match us, hl with | [_, _, _], _ => rfl
  have F42 := fun_mk (st := st_42) l42 c42 k42
  have b42 := F42.binds (ps := ["found"]) fun _ _ _ _ _ _ us hl => match us, hl with | [_], _ => rfl
  have F45 := fun_mk (st := st_45) l45 c45 k45
  have b45 := F45.binds (ps := ["found", "sides"]) fun _ _ _ _ _ _ us hl => match us, hl with | [_, _], _ => rfl
  have F7 := fun_mk (st := st_7) l7 c7 k7
  have b7 := F7.binds (ps := ["self", "at"]) fun _ _ _ _ _ _ us hl => match us, hl with | [_, _], _ => rfl
  have F9 := fun_mk (st := st_9) l9 c9 k9
  have b9 := F9.binds (ps := ["self"]) fun _ _ _ _ _ _ us hl => match us, hl with | [_], _ => rfl
  have F5 := fun_mk (st := st_5) l5 c5 k5
  have b5 := F5.binds (ps := ["self", "chart"]) fun _ _ _ _ _ _ us hl => match us, hl with | [_, _], _ => rfl
  have F0 := fun_mk (st := st_0) l0 c0 k0
  have b0 := F0.binds (ps := ["self", "size"]) fun _ _ _ _ _ _ us hl => match us, hl with | [_, _], _ => rfl
  have F46 := fun_mk (st := st_46) l46 c46 k46
  have b46 := F46.binds (ps := ["script"]) fun _ _ _ _ _ _ us hl => match us, hl with | [_], _ => rfl
  refine ⟨PySem.W.fnOf "law" "law" (defArgs st_46) (defBody st_46) (defScope st_46) .none kV46 dc46 pm46 an46 cd46 ct46, fun s v => .of_eq rfl, ⟨K, fun | .map => kMap | .board => kBoard | .orders => 0 | .turn => 0, none, fun | .noPlace => xNoPlace | .noSide => xNoSide | .crowded => xCrowded | .noUnit => xNoUnit | .outOfReach => xOutOfReach, hcF⟩, rfl, fun base _ _ => ?_⟩
  have B : BFa K mg ⟨K, fun | .map => kMap | .board => kBoard | .orders => 0 | .turn => 0, none, fun | .noPlace => xNoPlace | .noSide => xNoSide | .crowded => xCrowded | .noUnit => xNoUnit | .outOfReach => xOutOfReach, hcF⟩ nms := by
    refine ⟨rfl, fun c hc => ?_, fun c f hc => ?_, fun x hx => ?_, fun x hx => ?_⟩
    · cases c with
      | map => exact ⟨pgMap, hdMap, poMap, saMap⟩
      | board => exact ⟨pgBoard, hdBoard, poBoard, saBoard⟩
      | orders => exact absurd hc Bool.false_ne_true
      | turn => exact absurd hc Bool.false_ne_true
    · cases c with
      | map => cases f with
        | size => exact nsizeMap
        | rows => exact nrowsMap
        | chart => exact nchartMap
        | sides => exact nsidesMap
        | board => exact nboardMap
        | given => exact ngivenMap
        | steps => exact nstepsMap
        | closed => exact nclosedMap
        | out => exact noutMap
      | board => cases f with
        | size => exact nsizeBoard
        | rows => exact nrowsBoard
        | chart => exact nchartBoard
        | sides => exact nsidesBoard
        | board => exact nboardBoard
        | given => exact ngivenBoard
        | steps => exact nstepsBoard
        | closed => exact nclosedBoard
        | out => exact noutBoard
      | orders => exact absurd hc Bool.false_ne_true
      | turn => exact absurd hc Bool.false_ne_true
    · rcases List.mem_cons.mp hx with rfl | hx
      · exact PySem.W.mg_none_of X G zlen
      rcases List.mem_cons.mp hx with rfl | hx
      · exact PySem.W.mg_none_of X G zsorted
      rcases List.mem_cons.mp hx with rfl | hx
      · exact PySem.W.mg_none_of X G zlist
      rcases List.mem_cons.mp hx with rfl | hx
      · exact PySem.W.mg_none_of X G zmin
      rcases List.mem_cons.mp hx with rfl | hx
      · exact PySem.W.mg_none_of X G zmax
      rcases List.mem_cons.mp hx with rfl | hx
      · exact PySem.W.mg_none_of X G zint
      rcases List.mem_cons.mp hx with rfl | hx
      · exact PySem.W.mg_none_of X G zisinstance
      rcases List.mem_cons.mp hx with rfl | hx
      · exact PySem.W.mg_none_of X G zrange
      rcases List.mem_cons.mp hx with rfl | hx
      · exact PySem.W.mg_none_of X G zbool
      rcases List.mem_cons.mp hx with rfl | hx
      · exact PySem.W.mg_none_of X G ztuple
      rcases List.mem_cons.mp hx with rfl | hx
      · exact PySem.W.mg_none_of X G zstr
      rcases List.mem_cons.mp hx with rfl | hx
      · exact PySem.W.mg_none_of X G zValueError
      cases hx
    · cases x with
      | noPlace => exact ⟨⟨_, _, _, _, PySem.F.excBase_ValueError, qNoPlace⟩, PySem.W.mg_of X G aNoPlace, e1NoPlace, e2NoPlace, e3NoPlace⟩
      | noSide => exact ⟨⟨_, _, _, _, PySem.F.excBase_ValueError, qNoSide⟩, PySem.W.mg_of X G aNoSide, e1NoSide, e2NoSide, e3NoSide⟩
      | crowded => exact ⟨⟨_, _, _, _, PySem.F.excBase_ValueError, qCrowded⟩, PySem.W.mg_of X G aCrowded, e1Crowded, e2Crowded, e3Crowded⟩
      | noUnit => exact ⟨⟨_, _, _, _, PySem.F.excBase_ValueError, qNoUnit⟩, PySem.W.mg_of X G aNoUnit, e1NoUnit, e2NoUnit, e3NoUnit⟩
      | outOfReach => exact ⟨⟨_, _, _, _, PySem.F.excBase_ValueError, qOutOfReach⟩, PySem.W.mg_of X G aOutOfReach, e1OutOfReach, e2OutOfReach, e3OutOfReach⟩
  have T : FT K mg ⟨K, fun | .map => kMap | .board => kBoard | .orders => 0 | .turn => 0, none, fun | .noPlace => xNoPlace | .noSide => xNoSide | .crowded => xCrowded | .noUnit => xNoUnit | .outOfReach => xOutOfReach, hcF⟩ "OrderError" := by
    refine ⟨rfl, fun x => ?_, fun x y => ?_, fun x => ?_, ⟨xOE, PySem.W.mg_of X G aOE, fun x => ?_⟩⟩
    · cases x with
      | noPlace => exact ⟨y1NoPlace, y2NoPlace, e2NoPlace, y3NoPlace, y4NoPlace, yn, yt, y5NoPlace⟩
      | noSide => exact ⟨y1NoSide, y2NoSide, e2NoSide, y3NoSide, y4NoSide, yn, yt, y5NoSide⟩
      | crowded => exact ⟨y1Crowded, y2Crowded, e2Crowded, y3Crowded, y4Crowded, yn, yt, y5Crowded⟩
      | noUnit => exact ⟨y1NoUnit, y2NoUnit, e2NoUnit, y3NoUnit, y4NoUnit, yn, yt, y5NoUnit⟩
      | outOfReach => exact ⟨y1OutOfReach, y2OutOfReach, e2OutOfReach, y3OutOfReach, y4OutOfReach, yn, yt, y5OutOfReach⟩
    · cases x with
      | noPlace => cases y with
        | noPlace => exact kit_own y3NoPlace e3NoPlace wNoPlaceNoPlace wNoPlaceNoPlace
        | noSide => exact kit_own y3NoSide e3NoSide wNoPlaceNoSide wNoSideNoSide
        | crowded => exact kit_own y3Crowded e3Crowded wNoPlaceCrowded wCrowdedCrowded
        | noUnit => exact kit_own y3NoUnit e3NoUnit wNoPlaceNoUnit wNoUnitNoUnit
        | outOfReach => exact kit_own y3OutOfReach e3OutOfReach wNoPlaceOutOfReach wOutOfReachOutOfReach
      | noSide => cases y with
        | noPlace => exact kit_own y3NoPlace e3NoPlace wNoSideNoPlace wNoPlaceNoPlace
        | noSide => exact kit_own y3NoSide e3NoSide wNoSideNoSide wNoSideNoSide
        | crowded => exact kit_own y3Crowded e3Crowded wNoSideCrowded wCrowdedCrowded
        | noUnit => exact kit_own y3NoUnit e3NoUnit wNoSideNoUnit wNoUnitNoUnit
        | outOfReach => exact kit_own y3OutOfReach e3OutOfReach wNoSideOutOfReach wOutOfReachOutOfReach
      | crowded => cases y with
        | noPlace => exact kit_own y3NoPlace e3NoPlace wCrowdedNoPlace wNoPlaceNoPlace
        | noSide => exact kit_own y3NoSide e3NoSide wCrowdedNoSide wNoSideNoSide
        | crowded => exact kit_own y3Crowded e3Crowded wCrowdedCrowded wCrowdedCrowded
        | noUnit => exact kit_own y3NoUnit e3NoUnit wCrowdedNoUnit wNoUnitNoUnit
        | outOfReach => exact kit_own y3OutOfReach e3OutOfReach wCrowdedOutOfReach wOutOfReachOutOfReach
      | noUnit => cases y with
        | noPlace => exact kit_own y3NoPlace e3NoPlace wNoUnitNoPlace wNoPlaceNoPlace
        | noSide => exact kit_own y3NoSide e3NoSide wNoUnitNoSide wNoSideNoSide
        | crowded => exact kit_own y3Crowded e3Crowded wNoUnitCrowded wCrowdedCrowded
        | noUnit => exact kit_own y3NoUnit e3NoUnit wNoUnitNoUnit wNoUnitNoUnit
        | outOfReach => exact kit_own y3OutOfReach e3OutOfReach wNoUnitOutOfReach wOutOfReachOutOfReach
      | outOfReach => cases y with
        | noPlace => exact kit_own y3NoPlace e3NoPlace wOutOfReachNoPlace wNoPlaceNoPlace
        | noSide => exact kit_own y3NoSide e3NoSide wOutOfReachNoSide wNoSideNoSide
        | crowded => exact kit_own y3Crowded e3Crowded wOutOfReachCrowded wCrowdedCrowded
        | noUnit => exact kit_own y3NoUnit e3NoUnit wOutOfReachNoUnit wNoUnitNoUnit
        | outOfReach => exact kit_own y3OutOfReach e3OutOfReach wOutOfReachOutOfReach wOutOfReachOutOfReach
    · cases x with
      | noPlace => exact kit_val y6NoPlace
      | noSide => exact kit_val y6NoSide
      | crowded => exact kit_val y6Crowded
      | noUnit => exact kit_val y6NoUnit
      | outOfReach => exact kit_val y6OutOfReach
    · cases x with
      | noPlace => exact PySem.W.exm_ref yb yd yy y7NoPlace
      | noSide => exact PySem.W.exm_ref yb yd yy y7NoSide
      | crowded => exact PySem.W.exm_ref yb yd yy y7Crowded
      | noUnit => exact PySem.W.exm_ref yb yd yy y7NoUnit
      | outOfReach => exact PySem.W.exm_ref yb yd yy y7OutOfReach
  have H41 : FnOk l.prog w K mg base (L2.CX l.prog w) 2 f41 _ ["script", "k"] (liftSp ⟨K, fun | .map => kMap | .board => kBoard | .orders => 0 | .turn => 0, none, fun | .noPlace => xNoPlace | .noSide => xNoSide | .crowded => xCrowded | .noUnit => xNoUnit | .outOfReach => xOutOfReach, hcF⟩ (Phi_k03 41)) :=
    def_ok (L := cl_41) (k := 1) (tr := false) (on := "OrderError") B .nil (by decide) (fun z => by cases z) F41 sk_41 ck_41 (ok_k03_41)
  have H1 : FnOk l.prog w K mg base (L2.CX l.prog w) 2 f1 _ ["self", "at"] (liftSp ⟨K, fun | .map => kMap | .board => kBoard | .orders => 0 | .turn => 0, none, fun | .noPlace => xNoPlace | .noSide => xNoSide | .crowded => xCrowded | .noUnit => xNoUnit | .outOfReach => xOutOfReach, hcF⟩ (Phi_k03 1)) :=
    def_ok (L := cl_1) (k := 1) (tr := false) (on := "OrderError") B .nil (by decide) (fun z => by cases z) F1 sk_1 ck_1 (ok_1 Phi_k03)
  have H6 : FnOk l.prog w K mg base (L2.CX l.prog w) 4 f6 _ ["self", "at", "side"] (liftSp ⟨K, fun | .map => kMap | .board => kBoard | .orders => 0 | .turn => 0, none, fun | .noPlace => xNoPlace | .noSide => xNoSide | .crowded => xCrowded | .noUnit => xNoUnit | .outOfReach => xOutOfReach, hcF⟩ (Phi_k03 6)) :=
    def_ok (L := cl_6) (k := 3) (tr := false) (on := "OrderError") B (.cons (n := 2) ⟨⟨f1, _, _, H1, b1, ⟨a1, i1, k1⟩⟩, rfl, by intro x; cases x <;> decide +kernel⟩ (by decide) .nil) (by decide) (fun z => by cases z) F6 sk_6 ck_6 (ok_6 Phi_k03 rfl)
  have H8 : FnOk l.prog w K mg base (L2.CX l.prog w) 4 f8 _ ["self", "at"] (liftSp ⟨K, fun | .map => kMap | .board => kBoard | .orders => 0 | .turn => 0, none, fun | .noPlace => xNoPlace | .noSide => xNoSide | .crowded => xCrowded | .noUnit => xNoUnit | .outOfReach => xOutOfReach, hcF⟩ (Phi_k03 8)) :=
    def_ok (L := cl_8) (k := 3) (tr := false) (on := "OrderError") B (.cons (n := 2) ⟨⟨f1, _, _, H1, b1, ⟨a1, i1, k1⟩⟩, rfl, by intro x; cases x <;> decide +kernel⟩ (by decide) .nil) (by decide) (fun z => by cases z) F8 sk_8 ck_8 (ok_8 Phi_k03 rfl)
  have H43 : FnOk l.prog w K mg base (L2.CX l.prog w) 6 f43 _ ["board", "at", "side"] (liftSp ⟨K, fun | .map => kMap | .board => kBoard | .orders => 0 | .turn => 0, none, fun | .noPlace => xNoPlace | .noSide => xNoSide | .crowded => xCrowded | .noUnit => xNoUnit | .outOfReach => xOutOfReach, hcF⟩ (Phi_k03 43)) :=
    def_ok (L := cl_43) (k := 5) (tr := true) (on := "OrderError") B (.cons (n := 4) ⟨⟨f6, _, _, H6, b6, ⟨a6, i6, k6⟩⟩, rfl, by intro x; cases x <;> decide +kernel⟩ (by decide) (.cons (n := 4) ⟨⟨f8, _, _, H8, b8, ⟨a8, i8, k8⟩⟩, rfl, by intro x; cases x <;> decide +kernel⟩ (by decide) .nil)) (by decide) (fun _ => T) F43 sk_43 ck_43 (ok_k03_43)
  have H44 : FnOk l.prog w K mg base (L2.CX l.prog w) 2 f44 _ ["sides", "at", "side"] (liftSp ⟨K, fun | .map => kMap | .board => kBoard | .orders => 0 | .turn => 0, none, fun | .noPlace => xNoPlace | .noSide => xNoSide | .crowded => xCrowded | .noUnit => xNoUnit | .outOfReach => xOutOfReach, hcF⟩ (Phi_k03 44)) :=
    def_ok (L := cl_44) (k := 1) (tr := false) (on := "OrderError") B .nil (by decide) (fun z => by cases z) F44 sk_44 ck_44 (ok_k03_44)
  have H42 : FnOk l.prog w K mg base (L2.CX l.prog w) 2 f42 _ ["found"] (liftSp ⟨K, fun | .map => kMap | .board => kBoard | .orders => 0 | .turn => 0, none, fun | .noPlace => xNoPlace | .noSide => xNoSide | .crowded => xCrowded | .noUnit => xNoUnit | .outOfReach => xOutOfReach, hcF⟩ (Phi_k03 42)) :=
    def_ok (L := cl_42) (k := 1) (tr := false) (on := "OrderError") B .nil (by decide) (fun z => by cases z) F42 sk_42 ck_42 (ok_k03_42)
  have H45 : FnOk l.prog w K mg base (L2.CX l.prog w) 4 f45 _ ["found", "sides"] (liftSp ⟨K, fun | .map => kMap | .board => kBoard | .orders => 0 | .turn => 0, none, fun | .noPlace => xNoPlace | .noSide => xNoSide | .crowded => xCrowded | .noUnit => xNoUnit | .outOfReach => xOutOfReach, hcF⟩ (Phi_k03 45)) :=
    def_ok (L := cl_45) (k := 3) (tr := false) (on := "OrderError") B (.cons (n := 2) ⟨f42, _, _, H42, b42, k42, PySem.W.mg_of X G a42⟩ (by decide) .nil) (by decide) (fun z => by cases z) F45 sk_45 ck_45 (ok_k03_45)
  have H7 : FnOk l.prog w K mg base (L2.CX l.prog w) 4 f7 _ ["self", "at"] (liftSp ⟨K, fun | .map => kMap | .board => kBoard | .orders => 0 | .turn => 0, none, fun | .noPlace => xNoPlace | .noSide => xNoSide | .crowded => xCrowded | .noUnit => xNoUnit | .outOfReach => xOutOfReach, hcF⟩ (Phi_k03 7)) :=
    def_ok (L := cl_7) (k := 3) (tr := false) (on := "OrderError") B (.cons (n := 2) ⟨⟨f1, _, _, H1, b1, ⟨a1, i1, k1⟩⟩, rfl, by intro x; cases x <;> decide +kernel⟩ (by decide) .nil) (by decide) (fun z => by cases z) F7 sk_7 ck_7 (ok_7 Phi_k03 rfl)
  have H9 : FnOk l.prog w K mg base (L2.CX l.prog w) 2 f9 _ ["self"] (liftSp ⟨K, fun | .map => kMap | .board => kBoard | .orders => 0 | .turn => 0, none, fun | .noPlace => xNoPlace | .noSide => xNoSide | .crowded => xCrowded | .noUnit => xNoUnit | .outOfReach => xOutOfReach, hcF⟩ (Phi_k03 9)) :=
    def_ok (L := cl_9) (k := 1) (tr := false) (on := "OrderError") B .nil (by decide) (fun z => by cases z) F9 sk_9 ck_9 (ok_9 Phi_k03)
  have H5 : FnOk l.prog w K mg base (L2.CX l.prog w) 2 f5 _ ["self", "chart"] (liftSp ⟨K, fun | .map => kMap | .board => kBoard | .orders => 0 | .turn => 0, none, fun | .noPlace => xNoPlace | .noSide => xNoSide | .crowded => xCrowded | .noUnit => xNoUnit | .outOfReach => xOutOfReach, hcF⟩ (Phi_k03 5)) :=
    def_ok (L := cl_5) (k := 1) (tr := false) (on := "OrderError") B .nil (by decide) (fun z => by cases z) F5 sk_5 ck_5 (ok_5 Phi_k03)
  have H0 : FnOk l.prog w K mg base (L2.CX l.prog w) 2 f0 _ ["self", "size"] (liftSp ⟨K, fun | .map => kMap | .board => kBoard | .orders => 0 | .turn => 0, none, fun | .noPlace => xNoPlace | .noSide => xNoSide | .crowded => xCrowded | .noUnit => xNoUnit | .outOfReach => xOutOfReach, hcF⟩ (Phi_k03 0)) :=
    def_ok (L := cl_0) (k := 1) (tr := false) (on := "OrderError") B .nil (by decide) (fun z => by cases z) F0 sk_0 ck_0 (ok_0 Phi_k03)
  have H46 : FnOk l.prog w K mg base (L2.CX l.prog w) 8 fa _ ["script"] (liftSp ⟨K, fun | .map => kMap | .board => kBoard | .orders => 0 | .turn => 0, none, fun | .noPlace => xNoPlace | .noSide => xNoSide | .crowded => xCrowded | .noUnit => xNoUnit | .outOfReach => xOutOfReach, hcF⟩ (Phi_k03 46)) :=
    def_ok (L := cl_46) (k := 7) (tr := false) (on := "OrderError") B (.cons (n := 2) ⟨f41, _, _, H41, b41, k41, PySem.W.mg_of X G a41⟩ (by decide) (.cons (n := 6) ⟨f43, _, _, H43, b43, k43, PySem.W.mg_of X G a43⟩ (by decide) (.cons (n := 2) ⟨f44, _, _, H44, b44, k44, PySem.W.mg_of X G a44⟩ (by decide) (.cons (n := 4) ⟨f45, _, _, H45, b45, k45, PySem.W.mg_of X G a45⟩ (by decide) (.cons (n := 4) ⟨⟨f7, _, _, H7, b7, ⟨a7, i7, k7⟩⟩, rfl, by intro x; cases x <;> decide +kernel⟩ (by decide) (.cons (n := 2) ⟨⟨f9, _, _, H9, b9, ⟨a9, i9, k9⟩⟩, rfl, by intro x; cases x <;> decide +kernel⟩ (by decide) (.cons (n := 2) ⟨⟨f5, _, _, H5, b5, ⟨mkBoard, a5, i5, kcBoard⟩, PySem.W.mg_of X G aBoard⟩, rfl⟩ (by decide) (.cons (n := 2) ⟨⟨f0, _, _, H0, b0, ⟨mkMap, a0, i0, kcMap⟩, PySem.W.mg_of X G aMap⟩, rfl⟩ (by decide) .nil)))))))) (by decide) (fun z => by cases z) F46 sk_46 ck_46 (ok_k03_46)
  exact H46
end LL
open PySem PySem.W PyProof.Rows
set_option maxRecDepth 100000 in
set_option maxHeartbeats 0 in
theorem PySem.Challenge.cw_atonce_k03_units_posted_holds : PySem.Challenge.rw_atonce_k03_units_posted.Holds := by
  w_on; o_law; k_head; (case hw => w_witness2)
  k_fill
  refine LL.walkL (l := PySem.Challenge.rw_atonce_k03_units_posted) (S := LL.Phi_k03 46) (k := 8) rfl rfl ⟨rfl, by decide, by decide⟩ (fun w h Y => PySem.W.kIn_of Y) LL.law_k03 ?F
  case F =>
    intro w mg fa h KX G hmg
    refine' LL.all_mk KX G hmg ?aBoard ?aMap ?aNoPlace ?qNoPlace ?e1NoPlace ?e2NoPlace ?e3NoPlace ?aNoSide ?qNoSide ?e1NoSide ?e2NoSide ?e3NoSide ?aCrowded ?qCrowded ?e1Crowded ?e2Crowded ?e3Crowded ?aNoUnit ?qNoUnit ?e1NoUnit ?e2NoUnit ?e3NoUnit ?aOutOfReach ?qOutOfReach ?e1OutOfReach ?e2OutOfReach ?e3OutOfReach ?a41 ?l41 ?c41 ?k41 ?a1 ?i1 ?l1 ?c1 ?k1 ?a6 ?i6 ?l6 ?c6 ?k6 ?a8 ?i8 ?l8 ?c8 ?k8 ?a43 ?l43 ?c43 ?k43 ?a44 ?l44 ?c44 ?k44 ?a42 ?l42 ?c42 ?k42 ?a45 ?l45 ?c45 ?k45 ?a7 ?i7 ?l7 ?c7 ?k7 ?a9 ?i9 ?l9 ?c9 ?k9 ?a5 ?i5 ?l5 ?c5 ?k5 ?a0 ?i0 ?l0 ?c0 ?k0 ?a46 ?l46 ?c46 ?k46 ?pgBoard ?hdBoard ?poBoard ?saBoard ?mkBoard ?kcBoard ?nsizeBoard ?nrowsBoard ?nchartBoard ?nsidesBoard ?nboardBoard ?ngivenBoard ?nstepsBoard ?nclosedBoard ?noutBoard ?pgMap ?hdMap ?poMap ?saMap ?mkMap ?kcMap ?nsizeMap ?nrowsMap ?nchartMap ?nsidesMap ?nboardMap ?ngivenMap ?nstepsMap ?nclosedMap ?noutMap ?zlen ?zsorted ?zlist ?zmin ?zmax ?zint ?zisinstance ?zrange ?zbool ?ztuple ?zstr ?zValueError ?aOE ?y1NoPlace ?y2NoPlace ?y3NoPlace ?y4NoPlace ?y5NoPlace ?y6NoPlace ?y7NoPlace ?wNoPlaceNoPlace ?wNoPlaceNoSide ?wNoPlaceCrowded ?wNoPlaceNoUnit ?wNoPlaceOutOfReach ?y1NoSide ?y2NoSide ?y3NoSide ?y4NoSide ?y5NoSide ?y6NoSide ?y7NoSide ?wNoSideNoPlace ?wNoSideNoSide ?wNoSideCrowded ?wNoSideNoUnit ?wNoSideOutOfReach ?y1Crowded ?y2Crowded ?y3Crowded ?y4Crowded ?y5Crowded ?y6Crowded ?y7Crowded ?wCrowdedNoPlace ?wCrowdedNoSide ?wCrowdedCrowded ?wCrowdedNoUnit ?wCrowdedOutOfReach ?y1NoUnit ?y2NoUnit ?y3NoUnit ?y4NoUnit ?y5NoUnit ?y6NoUnit ?y7NoUnit ?wNoUnitNoPlace ?wNoUnitNoSide ?wNoUnitCrowded ?wNoUnitNoUnit ?wNoUnitOutOfReach ?y1OutOfReach ?y2OutOfReach ?y3OutOfReach ?y4OutOfReach ?y5OutOfReach ?y6OutOfReach ?y7OutOfReach ?wOutOfReachNoPlace ?wOutOfReachNoSide ?wOutOfReachCrowded ?wOutOfReachNoUnit ?wOutOfReachOutOfReach ?yb ?yd ?yy ?yn ?yt
    (case aBoard => k_is)
    (case aMap => k_is)
    (case aNoPlace => k_is)
    (case qNoPlace => k_exc)
    (case e1NoPlace => k_is)
    (case e2NoPlace => k_is)
    (case e3NoPlace => k_is)
    (case aNoSide => k_is)
    (case qNoSide => k_exc)
    (case e1NoSide => k_is)
    (case e2NoSide => k_is)
    (case e3NoSide => k_is)
    (case aCrowded => k_is)
    (case qCrowded => k_exc)
    (case e1Crowded => k_is)
    (case e2Crowded => k_is)
    (case e3Crowded => k_is)
    (case aNoUnit => k_is)
    (case qNoUnit => k_exc)
    (case e1NoUnit => k_is)
    (case e2NoUnit => k_is)
    (case e3NoUnit => k_is)
    (case aOutOfReach => k_is)
    (case qOutOfReach => k_exc)
    (case e1OutOfReach => k_is)
    (case e2OutOfReach => k_is)
    (case e3OutOfReach => k_is)
    (case a41 => k_is)
    (case l41 => k_is)
    (case c41 => k_is)
    (case k41 => k_is)
    (case a1 => k_is)
    (case i1 => k_is)
    (case l1 => k_is)
    (case c1 => k_is)
    (case k1 => k_is)
    (case a6 => k_is)
    (case i6 => k_is)
    (case l6 => k_is)
    (case c6 => k_is)
    (case k6 => k_is)
    (case a8 => k_is)
    (case i8 => k_is)
    (case l8 => k_is)
    (case c8 => k_is)
    (case k8 => k_is)
    (case a43 => k_is)
    (case l43 => k_is)
    (case c43 => k_is)
    (case k43 => k_is)
    (case a44 => k_is)
    (case l44 => k_is)
    (case c44 => k_is)
    (case k44 => k_is)
    (case a42 => k_is)
    (case l42 => k_is)
    (case c42 => k_is)
    (case k42 => k_is)
    (case a45 => k_is)
    (case l45 => k_is)
    (case c45 => k_is)
    (case k45 => k_is)
    (case a7 => k_is)
    (case i7 => k_is)
    (case l7 => k_is)
    (case c7 => k_is)
    (case k7 => k_is)
    (case a9 => k_is)
    (case i9 => k_is)
    (case l9 => k_is)
    (case c9 => k_is)
    (case k9 => k_is)
    (case a5 => k_is)
    (case i5 => k_is)
    (case l5 => k_is)
    (case c5 => k_is)
    (case k5 => k_is)
    (case a0 => k_is)
    (case i0 => k_is)
    (case l0 => k_is)
    (case c0 => k_is)
    (case k0 => k_is)
    (case a46 => k_is)
    (case l46 => k_is)
    (case c46 => k_is)
    (case k46 => k_is)
    (case pgBoard => k_is)
    (case hdBoard => k_is)
    (case poBoard => k_is)
    (case saBoard => k_is)
    (case mkBoard => k_is)
    (case kcBoard => k_is)
    (case nsizeBoard => k_is)
    (case nrowsBoard => k_is)
    (case nchartBoard => k_is)
    (case nsidesBoard => k_is)
    (case nboardBoard => k_is)
    (case ngivenBoard => k_is)
    (case nstepsBoard => k_is)
    (case nclosedBoard => k_is)
    (case noutBoard => k_is)
    (case pgMap => k_is)
    (case hdMap => k_is)
    (case poMap => k_is)
    (case saMap => k_is)
    (case mkMap => k_is)
    (case kcMap => k_is)
    (case nsizeMap => k_is)
    (case nrowsMap => k_is)
    (case nchartMap => k_is)
    (case nsidesMap => k_is)
    (case nboardMap => k_is)
    (case ngivenMap => k_is)
    (case nstepsMap => k_is)
    (case nclosedMap => k_is)
    (case noutMap => k_is)
    (case zlen => k_is)
    (case zsorted => k_is)
    (case zlist => k_is)
    (case zmin => k_is)
    (case zmax => k_is)
    (case zint => k_is)
    (case zisinstance => k_is)
    (case zrange => k_is)
    (case zbool => k_is)
    (case ztuple => k_is)
    (case zstr => k_is)
    (case zValueError => k_is)
    (case aOE => k_is)
    (case y1NoPlace => k_is)
    (case y2NoPlace => k_is)
    (case y3NoPlace => k_is)
    (case y4NoPlace => k_is)
    (case y5NoPlace => k_is)
    (case y6NoPlace => k_is)
    (case y7NoPlace => k_is)
    (case wNoPlaceNoPlace => first | rfl | k_is)
    (case wNoPlaceNoSide => k_is)
    (case wNoPlaceCrowded => k_is)
    (case wNoPlaceNoUnit => k_is)
    (case wNoPlaceOutOfReach => k_is)
    (case y1NoSide => k_is)
    (case y2NoSide => k_is)
    (case y3NoSide => k_is)
    (case y4NoSide => k_is)
    (case y5NoSide => k_is)
    (case y6NoSide => k_is)
    (case y7NoSide => k_is)
    (case wNoSideNoPlace => k_is)
    (case wNoSideNoSide => first | rfl | k_is)
    (case wNoSideCrowded => k_is)
    (case wNoSideNoUnit => k_is)
    (case wNoSideOutOfReach => k_is)
    (case y1Crowded => k_is)
    (case y2Crowded => k_is)
    (case y3Crowded => k_is)
    (case y4Crowded => k_is)
    (case y5Crowded => k_is)
    (case y6Crowded => k_is)
    (case y7Crowded => k_is)
    (case wCrowdedNoPlace => k_is)
    (case wCrowdedNoSide => k_is)
    (case wCrowdedCrowded => first | rfl | k_is)
    (case wCrowdedNoUnit => k_is)
    (case wCrowdedOutOfReach => k_is)
    (case y1NoUnit => k_is)
    (case y2NoUnit => k_is)
    (case y3NoUnit => k_is)
    (case y4NoUnit => k_is)
    (case y5NoUnit => k_is)
    (case y6NoUnit => k_is)
    (case y7NoUnit => k_is)
    (case wNoUnitNoPlace => k_is)
    (case wNoUnitNoSide => k_is)
    (case wNoUnitCrowded => k_is)
    (case wNoUnitNoUnit => first | rfl | k_is)
    (case wNoUnitOutOfReach => k_is)
    (case y1OutOfReach => k_is)
    (case y2OutOfReach => k_is)
    (case y3OutOfReach => k_is)
    (case y4OutOfReach => k_is)
    (case y5OutOfReach => k_is)
    (case y6OutOfReach => k_is)
    (case y7OutOfReach => k_is)
    (case wOutOfReachNoPlace => k_is)
    (case wOutOfReachNoSide => k_is)
    (case wOutOfReachCrowded => k_is)
    (case wOutOfReachNoUnit => k_is)
    (case wOutOfReachOutOfReach => first | rfl | k_is)
    (case yb => k_is)
    (case yd => k_is)
    (case yy => k_is)
    (case yn => k_is)
    (case yt => k_is)
