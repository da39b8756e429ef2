import PyProof.Rows.All
import HandS.ForMost
import KE.DataEq
import KE.DataAny
import KE.DataIsa
import KE.LtData
import KE.SortData
import HandS.TupAny
import KE.DataCmp
import HandS.Defaults
import HandS.HeadEnd
import HandS.Dict
import HandS.Words
import HandS.Head0
import HandS.Head1
import HandS.Head2
import HandS.HeadHook4
import PyProof.ReprLen
import PySem.Challenge.RW_howrows_k01_kinds_told
set_option Elab.async false
set_option linter.all false
set_option maxRecDepth 100000
set_option maxHeartbeats 3999000
namespace Rf
open PySem

abbrev D := PyData

/-- a run: it ends, it is outside of what is spoken of, or it draws a number below n -/
inductive T (α : Type) where
  | ret (a : α)
  | stuck
  | dip (n : Nat) (k : Nat → T α)

namespace T
def bind {α β : Type} : T α → (α → T β) → T β
  | .ret a, f => f a
  | .stuck, _ => .stuck
  | .dip n k, f => .dip n fun r => (k r).bind f
/-- every way through the tree ends, and ends so -/
def wp {α : Type} : T α → (α → Prop) → Prop
  | .ret a, Q => Q a
  | .stuck, _ => False
  | .dip n k, Q => ∀ r, r < n → (k r).wp Q
theorem wp_mono {α : Type} {P Q : α → Prop} (h : ∀ a, P a → Q a) : ∀ {t : T α}, t.wp P → t.wp Q
  | .ret a, w => h a w
  | .stuck, w => w
  | .dip n k, w => fun r hr => wp_mono h (w r hr)
theorem wp_bind {α β : Type} {Q : β → Prop} {f : α → T β} : ∀ {t : T α}, (t.bind f).wp Q ↔ t.wp fun a => (f a).wp Q
  | .ret a => Iff.rfl
  | .stuck => Iff.rfl
  | .dip n k => ⟨fun w r hr => wp_bind.mp (w r hr), fun w r hr => wp_bind.mpr (w r hr)⟩
@[simp] theorem bind_ret {α β : Type} (a : α) (f : α → T β) : (T.ret a).bind f = f a := rfl
theorem bind_assoc {α β γ : Type} (f : α → T β) (g : β → T γ) : ∀ t : T α, (t.bind f).bind g = t.bind fun a => (f a).bind g
  | .ret _ => rfl
  | .stuck => rfl
  | .dip n k => by
    show T.dip n _ = T.dip n _
    congr 1
    funext r
    exact bind_assoc f g (k r)
theorem bind_pure {α : Type} : ∀ t : T α, t.bind T.ret = t
  | .ret _ => rfl
  | .stuck => rfl
  | .dip n k => by
    show T.dip n _ = T.dip n _
    congr 1
    funext r
    exact bind_pure (k r)
end T

/-- the law's own source of draws, as a datum (no other dict has None for a key) -/
def spr : D := .dict [(.none, .int 0)]

/-- what is asked of data that are compared, shown, sorted -/
def okd (d : D) : Bool := d.plain && decide (d.depth ≤ 40)

inductive Bop | add | sub | mul | mod | fdiv | pow
  deriving DecidableEq
inductive Cop | eq | ne | lt | le | gt | ge | is | isnot | isin | notin
  deriving DecidableEq
inductive Ty | int | bool | str | tuple | list
  deriving DecidableEq
inductive Blt | len | tuple | list | int | str | repr | all | any
  deriving DecidableEq

/-- where a parameter's value comes from -/
inductive Src | pos (i : Nat) | kw (j : Nat) | dfl (d : D)

/-- how a def is called at some place: the def, how many positional ones, the keywords, the parameters -/
structure Form where
  f : Nat
  np : Nat
  ks : List Str
  ps : List Src

/-- targets -/
inductive Tg | nm (i : Nat) | tp (is : List Nat)

mutual
inductive E where
  | var (i : Nat)
  | cst (d : D)
  | glo (i : Nat)
  | tup (es : Es)
  | lst (es : Es)
  | and (a b : E)
  | or (a b : E)
  | not (a : E)
  | neg (a : E)
  | bin (op : Bop) (a b : E)
  | cmp (op : Cop) (a b : E)
  | chn (op op' : Cop) (a b c : E)
  | ite (c a b : E)
  | idx (a b : E)
  | slc (a lo hi : E)
  | slcL (a lo : E)
  | slcH (a hi : E)
  | call (c : Nat) (as ks : Es)
  | blt (b : Blt) (a : E)
  | isi (a : E) (t : Ty)
  | lc (elt : E) (tg : Tg) (it : It) (own : List (Str × Nat))
  | lcif (elt : E) (tg : Tg) (it : It) (own : List (Str × Nat)) (c : E)
inductive Es where
  | nil
  | cons (a : E) (r : Es)
inductive It where
  | exp (e : E)
  | rng (e : E)
  | enm (e : E)
  | zip (a b : E)
end

/-- a slot: not yet set, a value, a list that this frame alone holds -/
inductive SV | no | val (d : D) | own (ds : List D)

abbrev Env := List SV

def ofB (b : Bool) : T D := .ret (.bool b)
def isB : D → T Bool
  | .bool b => .ret b
  | _ => .stuck

/-- `in` of texts -/
def inStr (x y : Str) : Bool := !(Builtin.Str.occurrences y x 0 y.length 1).isEmpty

def small : Int := 2 ^ 64
def sz : Nat := 1000000

def binD : Bop → D → D → T D
  | .add, .int i, .int j => .ret (.int (i + j))
  | .add, .str x, .str y => if x.length + y.length ≤ sz then .ret (.str (x ++ y)) else .stuck
  | .add, .list x, .list y => if x.length + y.length ≤ sz then .ret (.list (x ++ y)) else .stuck
  | .add, .tuple x, .tuple y => if x.length + y.length ≤ sz then .ret (.tuple (x ++ y)) else .stuck
  | .sub, .int i, .int j => .ret (.int (i - j))
  | .mul, .int i, .int j => if -small < i ∧ i < small ∨ -small < j ∧ j < small then .ret (.int (i * j)) else .stuck
  | .mul, .list x, .int j => if 0 ≤ j ∧ j ≤ 1000 ∧ x.length ≤ 1000 then .ret (.list (List.replicate j.toNat x).flatten) else .stuck
  | .mod, .int i, .int j => if 0 < j then .ret (.int (i % j)) else .stuck
  | .fdiv, .int i, .int j => if 0 < j ∧ j < 1073741824 then .ret (.int (i / j)) else .stuck
  | .pow, .int i, .int j => if 0 ≤ j ∧ j ≤ 1000 ∧ i.natAbs < 1000000 then .ret (.int (i ^ j.toNat)) else .stuck
  | _, _, _ => .stuck

def isNone : D → Bool
  | .none => true
  | _ => false

def cmpD : Cop → D → D → T D
  | .eq, a, b => if okd a && okd b then ofB (PyData.eqv a b) else .stuck
  | .ne, a, b => if okd a && okd b then ofB (!PyData.eqv a b) else .stuck
  | .lt, a, b => if okd a && okd b && W.alike a b && !isNone a then ofB (W.dataLt a b) else .stuck
  | .gt, .int i, .int j => ofB (decide (j < i))
  | .ge, .int i, .int j => ofB (decide (j ≤ i))
  | .le, .int i, .int j => ofB (decide (i ≤ j))
  | .le, .str x, .str y => ofB (!decide (y.cps.toList < x.cps.toList))
  | .is, a, .none => ofB (isNone a)
  | .isnot, a, .none => ofB (!isNone a)
  | .isin, .str x, .str y => ofB (inStr x y)
  | .notin, .str x, .str y => ofB (!inStr x y)
  | .isin, a, .list xs => if okd a && okd (.list xs) then ofB (xs.any fun y => PyData.eqv y a) else .stuck
  | .isin, a, .tuple xs => if okd a && okd (.tuple xs) then ofB (xs.any fun y => PyData.eqv y a) else .stuck
  | .notin, a, .list xs => if okd a && okd (.list xs) then ofB (!xs.any fun y => PyData.eqv y a) else .stuck
  | .notin, a, .tuple xs => if okd a && okd (.tuple xs) then ofB (!xs.any fun y => PyData.eqv y a) else .stuck
  | _, _, _ => .stuck

def orStuck {α : Type} : Option α → T α
  | some a => .ret a
  | none => .stuck

def signs (x : Str) : List D := x.cps.toList.map fun c => .str ⟨#[c]⟩

def idxD : D → D → T D
  | .list xs, .int i => orStuck (L2.atI xs i)
  | .tuple xs, .int i => orStuck (L2.atI xs i)
  | .str x, .int i => if x.length ≤ sz then orStuck ((L2.atI x.cps.toList i).map fun c => .str ⟨#[c]⟩) else .stuck
  | _, _ => .stuck

def cutD {α : Type} (xs : List α) (lo hi : Option Int) : List α := (xs.drop (HT.sIx xs.length 0 lo)).take (HT.sIx xs.length xs.length hi - HT.sIx xs.length 0 lo)

def slcD (d : D) (lo hi : Option Int) : T D := match d with
  | .list xs => .ret (.list (cutD xs lo hi))
  | .tuple xs => .ret (.tuple (cutD xs lo hi))
  | _ => .stuck
def isI : D → T Int
  | .int i => .ret i
  | _ => .stuck

/-- a measure of what is shown -/
def shows (d : D) : Bool := okd d && d.showable && decide (d.shown.length ≤ sz)

def allB : List D → Option (List Bool)
  | [] => some []
  | .bool b :: r => (allB r).map (b :: ·)
  | _ :: _ => none

def bltD : Blt → D → T D
  | .len, .list xs => .ret (.int xs.length)
  | .len, .tuple xs => .ret (.int xs.length)
  | .len, .str x => if x.length ≤ sz then .ret (.int x.length) else .stuck
  | .tuple, .list xs => .ret (.tuple xs)
  | .tuple, .tuple xs => .ret (.tuple xs)
  | .list, .list xs => .ret (.list xs)
  | .list, .tuple xs => .ret (.list xs)
  | .int, .int i => .ret (.int i)
  | .str, .int i => if i.natAbs.log2 < 1920 then .ret (.str (toString i)) else .stuck
  | .repr, d => if shows d then .ret (.str d.shown) else .stuck
  | .all, .list xs => orStuck ((allB xs).map fun bs => .bool (bs.all id))
  | .any, .list xs => orStuck ((allB xs).map fun bs => .bool (bs.any id))
  | _, _ => .stuck

def isiD : D → Ty → Bool
  | .int _, .int => true
  | .bool _, .int => true
  | .bool _, .bool => true
  | .str _, .str => true
  | .tuple _, .tuple => true
  | .list _, .list => true
  | _, _ => false

def wipe (ρ : Env) : List Nat → Env
  | [] => ρ
  | v :: vs => (wipe ρ vs).set v .no

def setAll : List Nat → List D → Env → Option Env
  | [], [], ρ => some ρ
  | i :: is, d :: ds, ρ => setAll is ds (ρ.set i (.val d))
  | _, _, _ => none

def bindTg : Tg → D → Env → Option Env
  | .nm i, d, ρ => some (ρ.set i (.val d))
  | .tp is, .tuple ds, ρ => setAll is ds ρ
  | _, _, _ => none

/-- the turns of a comprehension -/
def lcGo (f : D → T (Option D)) : List D → T (List D)
  | [] => .ret []
  | d :: r => (f d).bind fun o => (lcGo f r).bind fun ys => .ret (match o with
    | some y => y :: ys
    | none => ys)

def lcRun (f : D → T (Option D)) (ds : List D) : T D := if ds.length ≤ sz then (lcGo f ds).bind fun ys => .ret (.list ys) else .stuck

/-- one turn -/
def lcTurn (tg : Tg) (vs : List Nat) (mc : Env → T Bool) (me : Env → T D) (ρ : Env) (d : D) : T (Option D) :=
  (orStuck (bindTg tg d (wipe ρ vs))).bind fun ρ' => (mc ρ').bind fun k => if k then (me ρ').bind fun y => .ret (some y) else .ret none

def itemsOf : D → T (List D)
  | .list xs => .ret xs
  | .tuple xs => .ret xs
  | .str x => if x.length ≤ sz then .ret (signs x) else .stuck
  | _ => .stuck

def seqOf : D → T (List D)
  | .list xs => .ret xs
  | .tuple xs => .ret xs
  | _ => .stuck

def pick (vs zs : List D) : Src → Option D
  | .pos i => vs[i]?
  | .kw j => zs[j]?
  | .dfl d => some d

def pickAll (vs zs : List D) : List Src → Option (List D)
  | [] => some []
  | s :: r => (pick vs zs s).bind fun d => (pickAll vs zs r).map (d :: ·)

section
variable (gs : List D) (fs : List Form) (cl : Nat → List D → T D)
mutual
def ev : E → Env → T D
  | .var i, ρ => match ρ[i]? with
    | some (.val d) => .ret d
    | _ => .stuck
  | .cst d, _ => .ret d
  | .glo i, _ => orStuck gs[i]?
  | .tup es, ρ => (evs es ρ).bind fun ds => .ret (.tuple ds)
  | .lst es, ρ => (evs es ρ).bind fun ds => .ret (.list ds)
  | .and a b, ρ => (ev a ρ).bind fun x => (isB x).bind fun c => if c then ev b ρ else ofB false
  | .or a b, ρ => (ev a ρ).bind fun x => (isB x).bind fun c => if c then ofB true else ev b ρ
  | .not a, ρ => (ev a ρ).bind fun x => (isB x).bind fun c => ofB (!c)
  | .neg a, ρ => (ev a ρ).bind fun x => (isI x).bind fun i => .ret (.int (-i))
  | .bin op a b, ρ => (ev a ρ).bind fun x => (ev b ρ).bind fun y => binD op x y
  | .cmp op a b, ρ => (ev a ρ).bind fun x => (ev b ρ).bind fun y => cmpD op x y
  | .chn op op' a b c, ρ => (ev a ρ).bind fun x => (ev b ρ).bind fun y => (cmpD op x y).bind fun k => (isB k).bind fun k =>
      if k then (ev c ρ).bind fun z => cmpD op' y z else ofB false
  | .ite c a b, ρ => (ev c ρ).bind fun x => (isB x).bind fun k => if k then ev a ρ else ev b ρ
  | .idx a b, ρ => (ev a ρ).bind fun x => (ev b ρ).bind fun y => idxD x y
  | .slc a l h, ρ => (ev a ρ).bind fun x => (ev l ρ).bind fun y => (isI y).bind fun i => (ev h ρ).bind fun z => (isI z).bind fun j => slcD x (some i) (some j)
  | .slcL a l, ρ => (ev a ρ).bind fun x => (ev l ρ).bind fun y => (isI y).bind fun i => slcD x (some i) none
  | .slcH a h, ρ => (ev a ρ).bind fun x => (ev h ρ).bind fun y => (isI y).bind fun i => slcD x none (some i)
  | .call c as ks, ρ => (evs as ρ).bind fun vs => (evs ks ρ).bind fun zs => match fs[c]? with
    | none => .stuck
    | some F => if vs.length = F.np ∧ zs.length = F.ks.length then (orStuck (pickAll vs zs F.ps)).bind fun ds => cl F.f ds else .stuck
  | .blt b a, ρ => (ev a ρ).bind fun x => bltD b x
  | .isi a t, ρ => (ev a ρ).bind fun x => if x.plain then ofB (isiD x t) else .stuck
  | .lc elt tg it own, ρ => (evI it ρ).bind fun ds => lcRun (lcTurn tg (own.map (·.2)) (fun _ => .ret true) (fun ρ' => ev elt ρ') ρ) ds
  | .lcif elt tg it own c, ρ => (evI it ρ).bind fun ds => lcRun (lcTurn tg (own.map (·.2)) (fun ρ' => (ev c ρ').bind isB) (fun ρ' => ev elt ρ') ρ) ds
def evs : Es → Env → T (List D)
  | .nil, _ => .ret []
  | .cons a r, ρ => (ev a ρ).bind fun x => (evs r ρ).bind fun xs => .ret (x :: xs)
def evI : It → Env → T (List D)
  | .exp e, ρ => (ev e ρ).bind itemsOf
  | .rng e, ρ => (ev e ρ).bind fun x => (isI x).bind fun n => if -(sz : Int) ≤ n ∧ n ≤ (sz : Int) then .ret ((List.range n.toNat).map fun (i : Nat) => .int (i : Int)) else .stuck
  | .enm e, ρ => (ev e ρ).bind fun x => (seqOf x).bind fun xs => .ret (xs.zipIdx.map fun p => .tuple [.int (p.2 : Int), p.1])
  | .zip a b, ρ => (ev a ρ).bind fun x => (ev b ρ).bind fun y => match x, y with
      | .tuple xs, .tuple ys => .ret ((xs.zip ys).map fun p => .tuple [p.1, p.2])
      | .list xs, .list ys => .ret ((xs.zip ys).map fun p => .tuple [p.1, p.2])
      | _, _ => .stuck
end
end

mutual
inductive S where
  | set (i : Nat) (e : E)
  | own (i : Nat) (e : E)
  | frz (i : Nat)
  | unp (is : List Nat) (e : E)
  | par (i j : Nat) (a b : E)
  | app (i : Nat) (e : E)
  | exp (e : E)
  | ret (e : E)
  | retN
  | ifs (c : E) (a b : Ss)
  | fr (tg : Tg) (it : It) (body : Ss)
  | never
inductive Ss where
  | nil
  | cons (s : S) (r : Ss)
end

inductive Fl | nx (ρ : Env) | rt (d : D) | bk (ρ : Env) | ct (ρ : Env)

def forGo (body : D → Env → T Fl) : List D → Env → T Fl
  | [], ρ => .ret (.nx ρ)
  | d :: r, ρ => (body d ρ).bind fun fl => match fl with
    | .nx ρ' => forGo body r ρ'
    | .ct ρ' => forGo body r ρ'
    | .bk ρ' => .ret (.nx ρ')
    | .rt v => .ret (.rt v)

def lst? : D → T (List D)
  | .list xs => .ret xs
  | _ => .stuck

section
variable (gs : List D) (fs : List Form) (cl : Nat → List D → T D)
mutual
def ex : S → Env → T Fl
  | .set i e, ρ => (ev gs fs cl e ρ).bind fun d => .ret (.nx (ρ.set i (.val d)))
  | .own i e, ρ => (ev gs fs cl e ρ).bind fun d => (lst? d).bind fun ds => .ret (.nx (ρ.set i (.own ds)))
  | .frz i, ρ => match ρ[i]? with
    | some (.own ds) => .ret (.nx (ρ.set i (.val (.list ds))))
    | some (.val _) => .ret (.nx ρ)
    | _ => .stuck
  | .unp is e, ρ => (ev gs fs cl e ρ).bind fun d => (orStuck (bindTg (.tp is) d ρ)).bind fun ρ' => .ret (.nx ρ')
  | .par i j a b, ρ => (ev gs fs cl a ρ).bind fun x => (ev gs fs cl b ρ).bind fun y => .ret (.nx ((ρ.set i (.val x)).set j (.val y)))
  | .app i e, ρ => match ρ[i]? with
    | some (.own ds) => (ev gs fs cl e ρ).bind fun d => if ds.length < sz then .ret (.nx (ρ.set i (.own (ds ++ [d])))) else .stuck
    | _ => .stuck
  | .exp e, ρ => (ev gs fs cl e ρ).bind fun _ => .ret (.nx ρ)
  | .ret e, ρ => (ev gs fs cl e ρ).bind fun d => .ret (.rt d)
  | .retN, _ => .ret (.rt .none)
  | .ifs c a b, ρ => (ev gs fs cl c ρ).bind fun x => (isB x).bind fun k => if k then exs a ρ else exs b ρ
  | .fr tg it body, ρ => (evI gs fs cl it ρ).bind fun ds => forGo (fun d ρ => (orStuck (bindTg tg d ρ)).bind fun ρ' => exs body ρ') ds ρ
  | .never, _ => .stuck
def exs : Ss → Env → T Fl
  | .nil, ρ => .ret (.nx ρ)
  | .cons s r, ρ => (ex s ρ).bind fun fl => match fl with
    | .nx ρ' => exs r ρ'
    | fl => .ret fl
end
end

/-- a def: by its body, or a draw -/
inductive Def where
  | code (np ns : Nat) (body : Ss)
  | draw

def outOf : Fl → T D
  | .nx _ => .ret .none
  | .rt d => .ret d
  | _ => .stuck

def isSpr : D → Bool
  | .dict [(.none, .int 0)] => true
  | _ => false

def enter (ns : Nat) (ds : List D) : Env := ds.map .val ++ List.replicate (ns - ds.length) .no

def runK (gs : List D) (fs : List Form) (df : List Def) : Nat → Nat → List D → T D
  | 0, _, _ => .stuck
  | k + 1, f, ds => match df[f]? with
    | none => .stuck
    | some .draw => match ds with
      | [s, .int n] => if isSpr s ∧ 0 < n ∧ n < 1000000 then .dip n.toNat fun r => .ret (.int r) else .stuck
      | _ => .stuck
    | some (.code np ns body) => if ds.length = np ∧ np ≤ ns then (exs gs fs (runK gs fs df k) body (enter ns ds)).bind outOf else .stuck
end Rf

namespace Rf
open PySem PySem.Spec PyProof.Rows L2

/-- the names of the keys of the source of draws -/
class Kys where
  kc : Str
  ka : Str
  kl : Str
  kn : Str
  ne : [kc, ka, kl, kn].Nodup
variable [Kys]
def kvs4 (c : Addr) (t l n : Int) : List (Key × V) := [(.inr Kys.kc, .ref c), (.inr Kys.ka, .int t), (.inr Kys.kl, .int l), (.inr Kys.kn, .int n)]
/-- the source of draws stands at a, its cells at c -/
def SprAt (a c : Addr) (H : Hp) : Prop := ∃ (ns : List Int) (t l n : Int), H a = some (.dK (kvs4 c t l n)) ∧ H c = some (.lst (ns.map V.int))

/-- what lies around a run: the source of draws, what is held of it, on which objects that hangs -/
structure Amb where
  aS : Option Addr
  pr : Addr → Prop
  SI : Hp → Prop
  keep : ∀ {H H' : Hp}, SI H → (∀ a, pr a → H' a = H a) → SI H'
  there : ∀ {H : Hp} {a : Addr}, SI H → pr a → H a ≠ none
  tab : ∀ {H : Hp} {a : Addr}, SI H → aS = some a → pr a ∧ ∃ kvs, H a = some (.dK kvs)
  drw : ∀ {H : Hp} {a : Addr}, SI H → aS = some a → ∃ c, SprAt a c H ∧ pr c ∧ ∀ H', SprAt a c H' → (∀ x, pr x → x ≠ a → H' x = H x) → SI H'

section
variable (A : Amb) (O : Addr → Prop) (K : PySem.W.Frag) (H : Hp)
mutual
/-- the value v is the datum d; lists in O are somebody's own and not within -/
inductive RD : V → D → Prop
  | non : RD .non .none
  | bl (b : Bool) : RD (.bl b) (.bool b)
  | int (i : Int) : RD (.int i) (.int i)
  | str (x : Str) : RD (.str x) (.str x)
  | lst {a : Addr} {vs : List V} {ds : List D} : H a = some (.lst vs) → ¬ O a → RDs vs ds → RD (.ref a) (.list ds)
  | tup {a : Addr} {vs : List V} {ds : List D} : SqT K H a vs → RDs vs ds → RD (.ref a) (.tuple ds)
  | spr {a : Addr} : A.aS = some a → RD (.ref a) spr
inductive RDs : List V → List D → Prop
  | nil : RDs [] []
  | cons {v : V} {d : D} {vs : List V} {ds : List D} : RD v d → RDs vs ds → RDs (v :: vs) (d :: ds)
end
end

/-- all that was tracked stands, but for the source of draws -/
def Sm (A : Amb) (H H' : Hp) : Prop := ∀ a o, H a = some o → A.aS ≠ some a → H' a = some o

section
variable {A : Amb} {O O' : Addr → Prop} {K : PySem.W.Frag} {H H' H2 : Hp} {v : V} {d : D} {vs : List V} {ds : List D}
theorem Sm.refl : Sm A H H := fun _ _ e _ => e
theorem Sm.trans (a : Sm A H H') (b : Sm A H' H2) : Sm A H H2 := fun c o e n => b c o (a c o e n) n
theorem Sm.new {p : Addr} {o : HO} (h : H p = none) : Sm A H (upd H p o) := fun a u e _ => by rw [upd_ne (ne_of_none e h)]; exact e

mutual
theorem RD.mono (hl : ∀ a vs, H a = some (.lst vs) → ¬ O a → H' a = some (.lst vs) ∧ ¬ O' a) (ht : ∀ a vs, SqT K H a vs → SqT K H' a vs) : ∀ {v : V} {d : D}, RD A O K H v d → RD A O' K H' v d
  | _, _, .non => .non
  | _, _, .bl b => .bl b
  | _, _, .int i => .int i
  | _, _, .str x => .str x
  | _, _, .lst h n r => .lst (hl _ _ h n).1 (hl _ _ h n).2 (RDs.mono hl ht r)
  | _, _, .tup h r => .tup (ht _ _ h) (RDs.mono hl ht r)
  | _, _, .spr h => .spr h
theorem RDs.mono (hl : ∀ a vs, H a = some (.lst vs) → ¬ O a → H' a = some (.lst vs) ∧ ¬ O' a) (ht : ∀ a vs, SqT K H a vs → SqT K H' a vs) : ∀ {vs : List V} {ds : List D}, RDs A O K H vs ds → RDs A O' K H' vs ds
  | _, _, .nil => .nil
  | _, _, .cons h r => .cons (RD.mono hl ht h) (RDs.mono hl ht r)
end

theorem rd_tupNe {a b : Addr} {vs : List V} {kvs : List (Key × V)} (h : Rd H a (.tup vs)) (e : H b = some (.dK kvs)) : a ≠ b := by
  rintro rfl
  rcases h with h | ⟨o, h⟩ <;> (rw [h] at e; cases e)
theorem sqT_sm (s : Sm A H H') (i : A.SI H) {a : Addr} {vs : List V} (h : SqT K H a vs) : SqT K H' a vs := by
  rcases h with h | h
  · have ne : A.aS ≠ some a := fun e => by
      obtain ⟨_, kvs, q⟩ := A.tab i e
      exact rd_tupNe h q rfl
    rcases h with h | ⟨o, h⟩
    · exact .inl (.inl (s a _ h ne))
    · exact .inl (.inr ⟨o, s a _ h ne⟩)
  · exact .inr h
theorem lst_sm (s : Sm A H H') (i : A.SI H) {a : Addr} {vs : List V} (h : H a = some (.lst vs)) : H' a = some (.lst vs) := by
  refine s a _ h fun e => ?_
  obtain ⟨_, kvs, q⟩ := A.tab i e
  rw [h] at q; cases q
theorem RD.sm (s : Sm A H H') (i : A.SI H) (r : RD A O K H v d) : RD A O K H' v d :=
  r.mono (fun _ _ h n => ⟨lst_sm s i h, n⟩) fun _ _ h => sqT_sm s i h
theorem RDs.sm (s : Sm A H H') (i : A.SI H) (r : RDs A O K H vs ds) : RDs A O K H' vs ds :=
  r.mono (fun _ _ h n => ⟨lst_sm s i h, n⟩) fun _ _ h => sqT_sm s i h
theorem RD.less (h : ∀ a, O' a → O a) (r : RD A O K H v d) : RD A O' K H v d := r.mono (fun _ _ e n => ⟨e, fun z => n (h _ z)⟩) fun _ _ h => h
theorem RDs.less (h : ∀ a, O' a → O a) (r : RDs A O K H vs ds) : RDs A O' K H vs ds := r.mono (fun _ _ e n => ⟨e, fun z => n (h _ z)⟩) fun _ _ h => h
theorem RDs.length : ∀ {vs : List V} {ds : List D}, RDs A O K H vs ds → vs.length = ds.length
  | _, _, .nil => rfl
  | _, _, .cons _ r => congrArg (· + 1) r.length
theorem RDs.get : ∀ {vs : List V} {ds : List D} {i : Nat} {d : D}, RDs A O K H vs ds → ds[i]? = some d → ∃ v, vs[i]? = some v ∧ RD A O K H v d
  | _, _, _, _, .nil, e => by simp at e
  | _, _, 0, _, .cons h _, e => by
    simp at e; subst e
    exact ⟨_, rfl, h⟩
  | _, _, i + 1, _, .cons _ r, e => by simpa using r.get (i := i) (by simpa using e)
theorem RDs.getV : ∀ {vs : List V} {ds : List D} {i : Nat} {v : V}, RDs A O K H vs ds → vs[i]? = some v → ∃ d, ds[i]? = some d ∧ RD A O K H v d
  | _, _, _, _, .nil, e => by simp at e
  | _, _, 0, _, .cons h _, e => by
    simp at e; subst e
    exact ⟨_, rfl, h⟩
  | _, _, i + 1, _, .cons _ r, e => by simpa using r.getV (i := i) (by simpa using e)
theorem RDs.append : ∀ {vs : List V} {ds : List D} {ws : List V} {es : List D}, RDs A O K H vs ds → RDs A O K H ws es → RDs A O K H (vs ++ ws) (ds ++ es)
  | _, _, _, _, .nil, q => q
  | _, _, _, _, .cons h r, q => .cons h (r.append q)
theorem RDs.take : ∀ {vs : List V} {ds : List D} (n : Nat), RDs A O K H vs ds → RDs A O K H (vs.take n) (ds.take n)
  | _, _, 0, _ => .nil
  | _, _, _ + 1, .nil => .nil
  | _, _, n + 1, .cons h r => .cons h (r.take n)
theorem RDs.drop : ∀ {vs : List V} {ds : List D} (n : Nat), RDs A O K H vs ds → RDs A O K H (vs.drop n) (ds.drop n)
  | _, _, 0, r => r
  | _, _, _ + 1, .nil => .nil
  | _, _, n + 1, .cons _ r => r.drop n
theorem RDs.rep (r : RDs A O K H vs ds) : ∀ n : Nat, RDs A O K H (List.replicate n vs).flatten (List.replicate n ds).flatten
  | 0 => .nil
  | n + 1 => by
    rw [List.replicate_succ, List.replicate_succ, List.flatten_cons, List.flatten_cons]
    exact r.append (r.rep n)
end

section
variable {X : Cx} {pins : List (Addr × Obj)} {σ : L2.St} {H : Hp} {s : Shared} {A : Amb} {O : Addr → Prop}
mutual
theorem RD.reads (I : Inv X pins σ H s) : ∀ {v : V} {d : D} {u : Value}, RD A O X.K H v d → RelV v u → d.plain = true → ∃ as, Reads s.heap u d as
  | _, _, _, .non, r, _ => by cases r; exact ⟨_, .none⟩
  | _, _, _, .bl b, r, _ => by cases r; exact ⟨_, .bool b⟩
  | _, _, _, .int i, r, _ => by obtain ⟨t, rfl⟩ := r; exact ⟨_, .int i t⟩
  | _, _, _, .str x, r, _ => by obtain ⟨t, rfl⟩ := r; exact ⟨_, .str x t⟩
  | _, _, _, .lst (a := a) h _ rs, r, hp => by
    cases r
    obtain ⟨its, rv, ⟨o, n, e, c, _, q⟩, _⟩ := I.list (SqL.of h)
    obtain ⟨as, ra⟩ := RDs.reads I rs rv (by simpa [PyData.plain] using hp)
    exact ⟨a :: as, .list e c q (by simpa using ra)⟩
  | _, _, _, .tup (a := a) h rs, r, hp => by
    cases r
    obtain ⟨its, rv, ⟨o, e, c, n, q⟩, _⟩ := I.tuple h
    obtain ⟨as, ra⟩ := RDs.reads I rs rv (by simpa [PyData.plain] using hp)
    exact ⟨as, .tuple e c q (by simpa using ra)⟩
  | _, _, _, .spr _, _, hp => by simp [spr, PyData.plain] at hp
theorem RDs.reads (I : Inv X pins σ H s) : ∀ {vs : List V} {ds : List D} {us : List Value}, RDs A O X.K H vs ds → Vals vs us → PyData.plainAll ds = true → ∃ as, ReadsAll s.heap us ds as
  | _, _, _, .nil, r, _ => by cases r; exact ⟨_, .nil⟩
  | _, _, _, .cons (d := d) (ds := ds) h rs, r, hp => by
    cases r with
    | cons r1 r2 =>
      have hp' : PyData.plain d = true ∧ PyData.plainAll ds = true := by simpa [PyData.plainAll] using hp
      obtain ⟨as, ra⟩ := RD.reads I h r1 hp'.1
      obtain ⟨bs, rb⟩ := RDs.reads I rs r2 hp'.2
      exact ⟨as ++ bs, .cons ra rb⟩
end
end

structure Rel (A : Amb) (O : Addr → Prop) (K : PySem.W.Frag) (ρ : Env) (σ : L2.St) (H : Hp) : Prop where
  len : ρ.length = σ.length
  val : ∀ (i : Nat) (d : D), ρ[i]? = some (.val d) → ∃ v, σ[i]? = some (some v) ∧ RD A O K H v d
  own : ∀ (i : Nat) (ds : List D), ρ[i]? = some (.own ds) → ∃ a vs, σ[i]? = some (some (.ref a)) ∧ H a = some (.lst vs) ∧ RDs A O K H vs ds ∧ O a
  uniq : ∀ (i j : Nat) (ds es : List D) (a : Addr), ρ[i]? = some (.own ds) → ρ[j]? = some (.own es) → σ[i]? = some (some (.ref a)) → σ[j]? = some (some (.ref a)) → i = j
  trk : ∀ a, O a → H a ≠ none
  npr : ∀ a, O a → ¬ A.pr a
  si : A.SI H

section
variable {A : Amb} {O : Addr → Prop} {K : PySem.W.Frag} {H H' : Hp} {ρ : Env} {σ : L2.St}
theorem Rel.sm (r : Rel A O K ρ σ H) (s : Sm A H H') (i : A.SI H') : Rel A O K ρ σ H' where
  len := r.len
  val := fun j d e => let ⟨v, h1, h2⟩ := r.val j d e; ⟨v, h1, h2.sm s r.si⟩
  own := fun j ds e => let ⟨a, vs, h1, h2, h3, h4⟩ := r.own j ds e; ⟨a, vs, h1, lst_sm s r.si h2, h3.sm s r.si, h4⟩
  uniq := r.uniq
  trk := fun a h => by
    have q := r.trk a h
    cases e : H a with
    | none => exact absurd e q
    | some o =>
      by_cases n : A.aS = some a
      · exact absurd (A.tab r.si n).1 (r.npr a h)
      · rw [s a o e n]; simp
  npr := r.npr
  si := i
theorem Amb.new (A : Amb) {p : Addr} {o : HO} (i : A.SI H) (h : H p = none) : A.SI (upd H p o) :=
  A.keep i fun a ha => upd_ne fun e => A.there i ha (e ▸ h)
theorem Rel.new (r : Rel A O K ρ σ H) {p : Addr} {o : HO} (h : H p = none) : Rel A O K ρ σ (upd H p o) := r.sm (Sm.new h) (A.new r.si h)
theorem Rel.fresh (r : Rel A O K ρ σ H) {p : Addr} (h : H p = none) : ¬ O p := fun q => r.trk p q h
end

abbrev M := Env → T D
/-- the reading of an expression whose run over data is m -/
def tD (K : PySem.W.Frag) (m : M) : TE := fun σ H Q => ∃ A O ρ, Rel A O K ρ σ H ∧ (m ρ).wp fun d => ∀ v H', RD A O K H' v d → Sm A H H' → A.SI H' → Q v H'
def tDs (K : PySem.W.Frag) (m : Env → T (List D)) : TA := fun σ H Q => ∃ A O ρ, Rel A O K ρ σ H ∧ (m ρ).wp fun ds => ∀ vs H', RDs A O K H' vs ds → Sm A H H' → A.SI H' → Q vs H'
/-- as a test -/
def tDb (K : PySem.W.Frag) (m : M) : TT := fun σ H Q => ∃ A O ρ, Rel A O K ρ σ H ∧ (m ρ).wp fun d => ∃ b, d = .bool b ∧ ∀ H', Sm A H H' → A.SI H' → Q b H'
theorem _root_.L2.PE.imp {X : Cx} {e : Expr} {t t' : TE} (h : PE X e t) (i : ∀ σ H Q, t' σ H Q → t σ H Q) : PE X e t' := ⟨fun pins s σ H Q I q => h.run pins s σ H Q I (i _ _ _ q)⟩
theorem _root_.L2.PT.imp {X : Cx} {e : Expr} {t t' : TT} (h : PT X e t) (i : ∀ σ H Q, t' σ H Q → t σ H Q) : PT X e t' := ⟨fun pins s σ H Q I q => h.run pins s σ H Q I (i _ _ _ q)⟩
theorem _root_.L2.PW.imp {X : Cx} {e : Expr} {t t' : TT} (h : PW X e t) (i : ∀ σ H Q, t' σ H Q → t σ H Q) : PW X e t' := ⟨fun w pins s σ H Q I q => h.run w pins s σ H Q I (i _ _ _ q)⟩
theorem _root_.L2.PA.imp {X : Cx} {e : List Expr} {t t' : TA} (h : PA X e t) (i : ∀ σ H Q, t' σ H Q → t σ H Q) : PA X e t' := ⟨fun p pins s σ H Q I q => h.run p pins s σ H Q I (i _ _ _ q)⟩
theorem _root_.L2.PS.imp {X : Cx} {e : Stmt} {t t' : TS} (h : PS X e t) (i : ∀ D σ H, t' D σ H → t D σ H) : PS X e t' := ⟨fun pins s σ H D I q => h.run pins s σ H D I (i _ _ _ q)⟩
theorem _root_.L2.PSs.imp {X : Cx} {e : List Stmt} {t t' : TS} (h : PSs X e t) (i : ∀ D σ H, t' D σ H → t D σ H) : PSs X e t' := ⟨fun pins s σ H D I q => h.run pins s σ H D I (i _ _ _ q)⟩

section
variable {K : PySem.W.Frag} {A : Amb} {O : Addr → Prop} {ρ : Env} {σ : L2.St} {H : Hp} {m : M}
/-- one reading behind another -/
theorem tD_bind {Q : VK} {f : D → T D} (r : Rel A O K ρ σ H) (w : ((m ρ).bind f).wp fun d => ∀ v H', RD A O K H' v d → Sm A H H' → A.SI H' → Q v H') {Q1 : VK}
    (h : ∀ d v H1, RD A O K H1 v d → Sm A H H1 → Rel A O K ρ σ H1 → ((f d).wp fun d => ∀ v H', RD A O K H' v d → Sm A H1 H' → A.SI H' → Q v H') → Q1 v H1) : tD K m σ H Q1 :=
  ⟨A, O, ρ, r, T.wp_mono (fun d wd v H1 rd sm si => h d v H1 rd sm (r.sm sm si) (T.wp_mono (fun _ q v' H' rd' sm' si' => q v' H' rd' (sm.trans sm') si') wd)) (T.wp_bind.mp w)⟩
end
end Rf

namespace Rf
open PySem PySem.Spec PyProof.Rows L2
variable [Kys]

/-- what is wanted behind an operation over data -/
def Beh (A : Amb) (O : Addr → Prop) (K : PySem.W.Frag) (H : Hp) (Q : VK) (d : D) : Prop := ∀ v H', RD A O K H' v d → Sm A H H' → A.SI H' → Q v H'
/-- what is known of a heap in which an operation runs -/
structure Lay (A : Amb) (O : Addr → Prop) (H : Hp) : Prop where
  trk : ∀ a, O a → H a ≠ none
  si : A.SI H
  npr : ∀ a, O a → ¬ A.pr a
section
variable {A : Amb} {O : Addr → Prop} {K : PySem.W.Frag} {H : Hp} {Q : VK} {d : D} {v : V}
theorem Rel.lay {ρ : Env} {σ : L2.St} (r : Rel A O K ρ σ H) : Lay A O H := ⟨r.trk, r.si, r.npr⟩
theorem Beh.here (b : Beh A O K H Q d) (l : Lay A O H) (r : RD A O K H v d) : Q v H := b v H r Sm.refl l.si
theorem Beh.lst {ds : List D} {vs : List V} (b : Beh A O K H Q (.list ds)) (l : Lay A O H) (r : RDs A O K H vs ds) {p : Addr} (hp : H p = none) : Q (.ref p) (upd H p (.lst vs)) :=
  b _ _ (.lst upd_same (fun q => l.trk p q hp) (r.sm (Sm.new hp) l.si)) (Sm.new hp) (A.new l.si hp)
theorem Beh.tup {ds : List D} {vs : List V} (b : Beh A O K H Q (.tuple ds)) (l : Lay A O H) (r : RDs A O K H vs ds) {p : Addr} (hp : H p = none) : Q (.ref p) (upd H p (.tup vs)) :=
  b _ _ (.tup (SqT.of upd_same) (r.sm (Sm.new hp) l.si)) (Sm.new hp) (A.new l.si hp)
end

/-- an operation over two data, as the layer's rule -/
def r2D (K : PySem.W.Frag) (f : D → D → T D) : R2 := fun x y H Q => ∃ A O dx dy, Lay A O H ∧ RD A O K H x dx ∧ RD A O K H y dy ∧ (f dx dy).wp (Beh A O K H Q)

theorem szL : sz ≤ sizeLine := by rw [sizeLine_eq]; decide
theorem wp_ite {α : Type} {c : Prop} [Decidable c] {t : T α} {Q : α → Prop} (h : (if c then t else .stuck).wp Q) : c ∧ t.wp Q := by
  by_cases q : c
  · rw [if_pos q] at h; exact ⟨q, h⟩
  · rw [if_neg q] at h; exact h.elim
theorem wp_orStuck {α : Type} {o : Option α} {Q : α → Prop} (h : (orStuck o).wp Q) : ∃ a, o = some a ∧ Q a := by
  cases o with
  | none => exact h.elim
  | some a => exact ⟨a, rfl, h⟩

def bopOf : Bop → Operator
  | .add => .Add | .sub => .Sub | .mul => .Mult | .mod => .Mod | .fdiv => .FloorDiv | .pow => .Pow

section
variable {X : Cx}
theorem op_binD (op : Bop) : OpR X (binaryOp (bopOf op)) (r2D X.K (binD op)) := by
  intro pins s σ H x y v u Q I rx ry h
  obtain ⟨A, O, dx, dy, l, rdx, rdy, w⟩ := h
  cases op with
  | add =>
    cases rdx with
    | int i =>
      cases rdy with
      | int j => exact op_add pins s σ H _ _ v u Q I rx ry ⟨i, j, rfl, rfl, Beh.here w l (.int _)⟩
      | _ => exact w.elim
    | str i =>
      cases rdy with
      | str j =>
        obtain ⟨hz, w⟩ := wp_ite w
        exact op_add_str pins s σ H _ _ v u Q I rx ry ⟨i, j, rfl, rfl, Nat.le_trans hz szL, Beh.here w l (.str _)⟩
      | _ => exact w.elim
    | lst h1 h2 r1 =>
      cases rdy with
      | lst h3 h4 r2 =>
        obtain ⟨hz, w⟩ := wp_ite w
        refine op_cat pins s σ H _ _ v u Q I rx ry ⟨_, _, _, _, rfl, rfl, h1, h3, ?_, fun p hp => Beh.lst w l (r1.append r2) hp⟩
        rw [r1.length, r2.length]; exact Nat.le_trans hz szL
      | _ => exact w.elim
    | tup h1 r1 =>
      cases rdy with
      | tup h3 r2 =>
        obtain ⟨hz, w⟩ := wp_ite w
        refine op_catA pins s σ H _ _ v u Q I rx ry ⟨_, _, _, _, rfl, rfl, h1, h3, ?_, fun e => ?_, fun _ e => ?_, fun _ _ p hp => Beh.tup w l (r1.append r2) hp⟩
        · rw [r1.length, r2.length]; exact Nat.le_trans hz szL
        · subst e
          cases r1
          exact Beh.here w l (.tup h3 r2)
        · subst e
          cases r2
          rw [List.append_nil] at w
          exact Beh.here w l (.tup h1 r1)
      | _ => exact w.elim
    | _ => exact w.elim
  | sub =>
    cases rdx with
    | int i =>
      cases rdy with
      | int j => exact op_sub pins s σ H _ _ v u Q I rx ry ⟨i, j, rfl, rfl, Beh.here w l (.int _)⟩
      | _ => exact w.elim
    | _ => exact w.elim
  | mul =>
    cases rdx with
    | int i =>
      cases rdy with
      | int j =>
        obtain ⟨hz, w⟩ := wp_ite w
        exact op_mul pins s σ H _ _ v u Q I rx ry ⟨i, j, rfl, rfl, hz, Beh.here w l (.int _)⟩
      | _ => exact w.elim
    | lst h1 h2 r1 =>
      cases rdy with
      | int j =>
        obtain ⟨⟨a1, a2, a3⟩, w⟩ := wp_ite w
        refine op_rep pins s σ H _ _ v u Q I rx ry ⟨_, j, _, rfl, rfl, h1, by omega, by omega, ?_, fun p hp => Beh.lst w l (r1.rep _) hp⟩
        rw [r1.length]
        refine Nat.le_trans (Nat.mul_le_mul a3 (show j.toNat ≤ 1000 by omega)) ?_
        exact Nat.le_trans (by decide) szL
      | _ => exact w.elim
    | _ => exact w.elim
  | mod =>
    cases rdx with
    | int i =>
      cases rdy with
      | int j =>
        obtain ⟨hz, w⟩ := wp_ite w
        exact op_mod pins s σ H _ _ v u Q I rx ry ⟨i, j, rfl, rfl, hz, Beh.here w l (.int _)⟩
      | _ => exact w.elim
    | _ => exact w.elim
  | fdiv =>
    cases rdx with
    | int i =>
      cases rdy with
      | int j =>
        obtain ⟨hz, w⟩ := wp_ite w
        exact op_fdiv pins s σ H _ _ v u Q I rx ry ⟨i, j, rfl, rfl, hz, Beh.here w l (.int _)⟩
      | _ => exact w.elim
    | _ => exact w.elim
  | pow =>
    cases rdx with
    | int i =>
      cases rdy with
      | int j =>
        obtain ⟨⟨h1, h2, h3⟩, w⟩ := wp_ite w
        exact op_pow pins s σ H _ _ v u Q I rx ry ⟨i, j, rfl, rfl, ⟨h1, by omega, Nat.lt_trans h3 (by decide)⟩, Beh.here w l (.int _)⟩
      | _ => exact w.elim
    | _ => exact w.elim

def copOf : Cop → CmpOp
  | .eq => .Eq | .ne => .NotEq | .lt => .Lt | .le => .LtE | .gt => .Gt | .ge => .GtE | .is => .Is | .isnot => .IsNot | .isin => .In | .notin => .NotIn

theorem okd_plain {d : D} (h : okd d = true) : d.plain = true ∧ d.depth ≤ 40 := by
  unfold okd at h
  rw [Bool.and_eq_true] at h
  exact ⟨h.1, of_decide_eq_true h.2⟩
theorem okd_two {a b : D} (h : (okd a && okd b) = true) : (a.plain = true ∧ a.depth ≤ 40) ∧ (b.plain = true ∧ b.depth ≤ 40) := by
  rw [Bool.and_eq_true] at h
  exact ⟨okd_plain h.1, okd_plain h.2⟩
theorem behB {pins : List (Addr × Obj)} {σ : L2.St} {H : Hp} {s : Shared} {A : Amb} {O : Addr → Prop} {Q : VK} {b : Bool} (I : L2.Inv X pins σ H s) (l : Lay A O H) (w : Beh A O X.K H Q (.bool b)) : EP X pins σ Q (.bool b) s :=
  ⟨.bl b, H, I, rfl, w.here l (.bl b)⟩
theorem isNone_rd {A : Amb} {O : Addr → Prop} {K : PySem.W.Frag} {H : Hp} {v : V} {d : D} (r : RD A O K H v d) : decide (v = V.non) = isNone d := by
  cases r <;> rfl
theorem op_cmpD (op : Cop) (hu : X.A.units + 64 < cLine) : OpR X (compareOp (copOf op)) (r2D X.K (cmpD op)) := by
  intro pins s σ H x y v u Q I rx ry h
  obtain ⟨A, O, dx, dy, l, rdx, rdy, w⟩ := h
  cases op with
  | eq =>
    have w : (if (okd dx && okd dy) = true then ofB (PyData.eqv dx dy) else .stuck).wp (Beh A O X.K H Q) := w
    obtain ⟨ok, w⟩ := wp_ite w
    obtain ⟨⟨p1, d1⟩, p2, d2⟩ := okd_two ok
    obtain ⟨as, ra⟩ := rdx.reads I rx p1
    obtain ⟨bs, rb⟩ := rdy.reads I ry p2
    exact SeqAt.eq_plain ra rb p1 p2 (by omega) (behB I l w)
  | ne =>
    have w : (if (okd dx && okd dy) = true then ofB (!PyData.eqv dx dy) else .stuck).wp (Beh A O X.K H Q) := w
    obtain ⟨ok, w⟩ := wp_ite w
    obtain ⟨⟨p1, d1⟩, p2, d2⟩ := okd_two ok
    obtain ⟨as, ra⟩ := rdx.reads I rx p1
    obtain ⟨bs, rb⟩ := rdy.reads I ry p2
    exact SeqAt.ne_plain ra rb p1 p2 (by omega) (behB I l w)
  | lt =>
    have w : (if (okd dx && okd dy && W.alike dx dy && !isNone dx) = true then ofB (W.dataLt dx dy) else .stuck).wp (Beh A O X.K H Q) := w
    obtain ⟨ok, w⟩ := wp_ite w
    rw [Bool.and_eq_true, Bool.and_eq_true] at ok
    obtain ⟨⟨ok, al⟩, nn⟩ := ok
    obtain ⟨⟨p1, d1⟩, p2, d2⟩ := okd_two ok
    obtain ⟨as, ra⟩ := rdx.reads I rx p1
    obtain ⟨bs, rb⟩ := rdy.reads I ry p2
    exact W.rcLt_alike dx dy X.A s v u as bs ra rb al (by rintro rfl; simp [isNone] at nn) (by omega) _ _ _ _ (behB I l w)
  | le =>
    cases rdx with
    | int i =>
      cases rdy with
      | int j => exact op_le pins s σ H _ _ v u Q I rx ry ⟨i, j, rfl, rfl, Beh.here w l (.bl _)⟩
      | _ => exact w.elim
    | str i =>
      cases rdy with
      | str j =>
        obtain ⟨t, rfl⟩ := rx
        obtain ⟨t', rfl⟩ := ry
        exact PySem.P.le_str (behB I l w)
      | _ => exact w.elim
    | _ => exact w.elim
  | gt =>
    cases rdx with
    | int i =>
      cases rdy with
      | int j => exact op_gt pins s σ H _ _ v u Q I rx ry ⟨i, j, rfl, rfl, Beh.here w l (.bl _)⟩
      | _ => exact w.elim
    | _ => exact w.elim
  | ge =>
    cases rdx with
    | int i =>
      cases rdy with
      | int j => exact op_ge pins s σ H _ _ v u Q I rx ry ⟨i, j, rfl, rfl, Beh.here w l (.bl _)⟩
      | _ => exact w.elim
    | _ => exact w.elim
  | is =>
    cases rdy with
    | non => exact op_isN pins s σ H _ _ v u Q I rx ry ⟨rfl, by rw [isNone_rd rdx]; exact Beh.here w l (.bl _)⟩
    | _ => exact w.elim
  | isnot =>
    cases rdy with
    | non => exact op_notN pins s σ H _ _ v u Q I rx ry ⟨rfl, by rw [isNone_rd rdx]; exact Beh.here w l (.bl _)⟩
    | _ => exact w.elim
  | isin =>
    cases rdy with
    | str j =>
      cases rdx with
      | str i => exact op_in_str pins s σ H _ _ v u Q I rx ry ⟨i, j, rfl, rfl, Beh.here w l (.bl _)⟩
      | _ => exact w.elim
    | lst h1 h2 rs =>
      rename_i b vs ds
      have w : (if (okd dx && okd (.list ds)) = true then ofB (ds.any fun y => PyData.eqv y dx) else .stuck).wp (Beh A O X.K H Q) := by
        cases rdx <;> exact w
      obtain ⟨ok, w⟩ := wp_ite w
      obtain ⟨⟨p1, d1⟩, p2, d2⟩ := okd_two ok
      obtain ⟨as, ra⟩ := rdx.reads I rx p1
      obtain ⟨bs, rb⟩ := (RD.lst h1 h2 rs).reads I ry p2
      exact SeqAt.in_list_data rb ra (by simpa [PyData.plain] using p2) p1 (by omega) (behB I l w)
    | tup h1 rs =>
      rename_i b vs ds
      have w : (if (okd dx && okd (.tuple ds)) = true then ofB (ds.any fun y => PyData.eqv y dx) else .stuck).wp (Beh A O X.K H Q) := by
        cases rdx <;> exact w
      obtain ⟨ok, w⟩ := wp_ite w
      obtain ⟨⟨p1, d1⟩, p2, d2⟩ := okd_two ok
      obtain ⟨as, ra⟩ := rdx.reads I rx p1
      obtain ⟨bs, rb⟩ := (RD.tup h1 rs).reads I ry p2
      exact SeqAt.in_tuple_data rb ra (by simpa [PyData.plain] using p2) p1 (by omega) (behB I l w)
    | _ => cases rdx <;> exact w.elim
  | notin =>
    cases rdy with
    | str j =>
      cases rdx with
      | str i => exact op_notin_str pins s σ H _ _ v u Q I rx ry ⟨i, j, rfl, rfl, Beh.here w l (.bl _)⟩
      | _ => exact w.elim
    | lst h1 h2 rs =>
      rename_i b vs ds
      have w : (if (okd dx && okd (.list ds)) = true then ofB (!ds.any fun y => PyData.eqv y dx) else .stuck).wp (Beh A O X.K H Q) := by
        cases rdx <;> exact w
      obtain ⟨ok, w⟩ := wp_ite w
      obtain ⟨⟨p1, d1⟩, p2, d2⟩ := okd_two ok
      obtain ⟨as, ra⟩ := rdx.reads I rx p1
      obtain ⟨bs, rb⟩ := (RD.lst h1 h2 rs).reads I ry p2
      exact SeqAt.notIn_list_data rb ra (by simpa [PyData.plain] using p2) p1 (by omega) (behB I l w)
    | tup h1 rs =>
      rename_i b vs ds
      have w : (if (okd dx && okd (.tuple ds)) = true then ofB (!ds.any fun y => PyData.eqv y dx) else .stuck).wp (Beh A O X.K H Q) := by
        cases rdx <;> exact w
      obtain ⟨ok, w⟩ := wp_ite w
      obtain ⟨⟨p1, d1⟩, p2, d2⟩ := okd_two ok
      obtain ⟨as, ra⟩ := rdx.reads I rx p1
      obtain ⟨bs, rb⟩ := (RD.tup h1 rs).reads I ry p2
      exact SeqAt.notIn_tuple_data rb ra (by simpa [PyData.plain] using p2) p1 (by omega) (behB I l w)
    | _ => cases rdx <;> exact w.elim

theorem atI_rds {A : Amb} {O : Addr → Prop} {K : PySem.W.Frag} {H : Hp} {vs : List V} {ds : List D} {i : Int} {d : D} (r : RDs A O K H vs ds) (h : atI ds i = some d) : ∃ v, atI vs i = some v ∧ RD A O K H v d := by
  unfold atI at h ⊢
  rw [r.length]
  cases e : ixN ds.length i with
  | none => rw [e] at h; cases h
  | some j =>
    rw [e] at h
    exact r.get h
theorem ix_D : IxR X (r2D X.K idxD) := by
  intro ve se pins s σ H x y v u Q I rx ry h hs
  obtain ⟨A, O, dx, dy, l, rdx, rdy, w⟩ := h
  cases rdx with
  | lst h1 h2 rs =>
    cases rdy with
    | int i =>
      obtain ⟨d, e, w⟩ := wp_orStuck w
      obtain ⟨z, e', r⟩ := atI_rds rs e
      exact ix_list ve se pins s σ H _ _ v u Q I rx ry ⟨_, _, i, z, rfl, rfl, SqL.of h1, e', Beh.here w l r⟩ hs
    | _ => exact w.elim
  | tup h1 rs =>
    cases rdy with
    | int i =>
      obtain ⟨d, e, w⟩ := wp_orStuck w
      obtain ⟨z, e', r⟩ := atI_rds rs e
      exact ix_tup ve se pins s σ H _ _ v u Q I rx ry ⟨_, _, i, z, rfl, rfl, h1, e', Beh.here w l r⟩ hs
    | _ => exact w.elim
  | str z =>
    cases rdy with
    | int i =>
      obtain ⟨hz, w⟩ := wp_ite w
      obtain ⟨d, e, w⟩ := wp_orStuck w
      obtain ⟨c, e', rfl⟩ := Option.map_eq_some_iff.mp e
      exact ix_str ve se pins s σ H _ _ v u Q I rx ry ⟨z, i, c, rfl, rfl, Nat.le_trans hz szL, e', Beh.here w l (.str _)⟩ hs
    | _ => exact w.elim
  | _ => cases rdy <;> exact w.elim

def r1S (K : PySem.W.Frag) : V → Option Int → Option Int → Hp → VK → Prop := fun x lo hi H Q => ∃ A O dx, Lay A O H ∧ RD A O K H x dx ∧ (slcD dx lo hi).wp (Beh A O K H Q)
theorem cut_rds {A : Amb} {O : Addr → Prop} {K : PySem.W.Frag} {H : Hp} {vs : List V} {ds : List D} (r : RDs A O K H vs ds) (lo hi : Option Int) : RDs A O K H (cutV vs lo hi) (cutD ds lo hi) := by
  unfold cutV cutD
  rw [r.length]
  exact (r.drop _).take _
theorem sl_D : SlR X (r1S X.K) := by
  intro pins s σ H x v vl vu lo hi sl Q I rx hs pl pu h
  obtain ⟨A, O, dx, l, rdx, w⟩ := h
  cases rdx with
  | lst h1 h2 rs =>
    exact sl_list pins s σ H _ v vl vu lo hi sl Q I rx hs pl pu ⟨_, _, rfl, SqL.of h1, fun p hp => Beh.lst w l (cut_rds rs lo hi) hp⟩
  | tup h1 rs =>
    rename_i a vs ds
    refine sl_tupA pins s σ H _ v vl vu lo hi sl Q I rx hs pl pu ⟨_, _, rfl, h1, fun e => ?_, fun _ p hp => Beh.tup w l (cut_rds rs lo hi) hp⟩
    have c : cutD ds lo hi = ds := by
      unfold cutD
      rw [← rs.length, e.1, e.2, List.drop_zero, Nat.sub_zero, rs.length, List.take_length]
    have w : Beh A O X.K H Q (.tuple (cutD ds lo hi)) := w
    rw [c] at w
    exact Beh.here w l (.tup h1 rs)
  | _ => exact w.elim
end
end Rf

namespace Rf
open PySem PySem.Spec PyProof.Rows L2
variable [Kys]

/-- a call with one datum -/
def r1D (K : PySem.W.Frag) (f : D → T D) : List V → Hp → VK → Prop := fun xs H Q => ∃ A O x d, Lay A O H ∧ xs = [x] ∧ RD A O K H x d ∧ (f d).wp (Beh A O K H Q)

section
variable {X : Cx}
theorem vals_of {x : V} {us : List Value} (r : Vals [x] us) : ∃ u, us = [u] ∧ RelV x u := Vals.one r

theorem cr_len : CallR X (.builtin "len") (r1D X.K (bltD .len)) := by
  intro pins s σ H xs us Q I r h
  obtain ⟨A, O, x, d, l, rfl, rd, w⟩ := h
  cases rd with
  | lst h1 h2 rs => exact call_len_seq pins s σ H _ us Q I r ⟨_, _, rfl, .inl (SqL.of h1), by rw [rs.length]; exact Beh.here w l (.int _)⟩
  | tup h1 rs => exact call_len_seq pins s σ H _ us Q I r ⟨_, _, rfl, .inr h1, by rw [rs.length]; exact Beh.here w l (.int _)⟩
  | str z =>
    obtain ⟨hz, w⟩ := wp_ite w
    exact call_len_str pins s σ H _ us Q I r ⟨z, rfl, Nat.le_trans hz szL, Beh.here w l (.int _)⟩
  | _ => exact w.elim
theorem cr_tuple : CallR X (.type "tuple") (r1D X.K (bltD .tuple)) := by
  intro pins s σ H xs us Q I r h
  obtain ⟨A, O, x, d, l, rfl, rd, w⟩ := h
  cases rd with
  | lst h1 h2 rs => exact call_tuple_of pins s σ H _ us Q I r ⟨_, _, rfl, .inl ⟨SqL.of h1, fun p hp => Beh.tup w l rs hp⟩⟩
  | tup h1 rs => exact call_tuple_of pins s σ H _ us Q I r ⟨_, _, rfl, .inr ⟨h1, Beh.here w l (.tup h1 rs)⟩⟩
  | _ => exact w.elim
theorem cr_list : CallR X (.type "list") (r1D X.K (bltD .list)) := by
  intro pins s σ H xs us Q I r h
  obtain ⟨A, O, x, d, l, rfl, rd, w⟩ := h
  cases rd with
  | lst h1 h2 rs => exact call_list_of pins s σ H _ us Q I r ⟨_, _, rfl, .inl (SqL.of h1), fun p hp => Beh.lst w l rs hp⟩
  | tup h1 rs => exact call_list_of pins s σ H _ us Q I r ⟨_, _, rfl, .inr h1, fun p hp => Beh.lst w l rs hp⟩
  | _ => exact w.elim
theorem cr_int : CallR X (.type "int") (r1D X.K (bltD .int)) := by
  intro pins s σ H xs us Q I r h
  obtain ⟨A, O, x, d, l, rfl, rd, w⟩ := h
  cases rd with
  | int i => exact call_int1 pins s σ H _ us Q I r (.inl ⟨i, rfl, Beh.here w l (.int _)⟩)
  | _ => exact w.elim
theorem cr_str : CallR X (.type "str") (r1D X.K (bltD .str)) := by
  intro pins s σ H xs us Q I r h
  obtain ⟨A, O, x, d, l, rfl, rd, w⟩ := h
  cases rd with
  | int i =>
    obtain ⟨hz, w⟩ := wp_ite w
    exact call_str_int pins s σ H _ us Q I r ⟨i, rfl, hz, Beh.here w l (.str _)⟩
  | _ => exact w.elim
theorem allB_rds {A : Amb} {O : Addr → Prop} {K : PySem.W.Frag} {H : Hp} : ∀ {vs : List V} {ds : List D} {bs : List Bool}, RDs A O K H vs ds → allB ds = some bs → vs = bs.map V.bl
  | _, _, _, .nil, e => by
    have e : some [] = some _ := e
    cases e; rfl
  | _, _, bs, .cons (d := d) h r, e => by
    cases h with
    | bl b =>
      have e : (allB _).map (b :: ·) = some bs := e
      obtain ⟨cs, e1, rfl⟩ := Option.map_eq_some_iff.mp e
      rw [allB_rds r e1]; rfl
    | _ => exact nomatch e
theorem cr_allD (hc : X.calm = true) : CallR X (.builtin "all") (r1D X.K (bltD .all)) := by
  intro pins s σ H xs us Q I r h
  obtain ⟨A, O, x, d, l, rfl, rd, w⟩ := h
  cases rd with
  | lst h1 h2 rs =>
    obtain ⟨d, e, w⟩ := wp_orStuck w
    obtain ⟨bs, e1, rfl⟩ := Option.map_eq_some_iff.mp e
    exact cr_all hc pins s σ H _ us Q I r ⟨_, bs, rfl, by rw [← allB_rds rs e1]; exact SqL.of h1, Beh.here w l (.bl _)⟩
  | _ => exact w.elim
theorem cr_anyD (hc : X.calm = true) : CallR X (.builtin "any") (r1D X.K (bltD .any)) := by
  intro pins s σ H xs us Q I r h
  obtain ⟨A, O, x, d, l, rfl, rd, w⟩ := h
  cases rd with
  | lst h1 h2 rs =>
    obtain ⟨d, e, w⟩ := wp_orStuck w
    obtain ⟨bs, e1, rfl⟩ := Option.map_eq_some_iff.mp e
    exact cr_any hc pins s σ H _ us Q I r ⟨_, bs, rfl, by rw [← allB_rds rs e1]; exact SqL.of h1, Beh.here w l (.bl _)⟩
  | _ => exact w.elim

mutual
theorem plain_noDict : ∀ d : D, d.plain = true → d.hasDict = false
  | .none, _ => by simp [PyData.hasDict]
  | .bool _, _ => by simp [PyData.hasDict]
  | .int _, _ => by simp [PyData.hasDict]
  | .str _, _ => by simp [PyData.hasDict]
  | .list xs, h => by
    simp only [PyData.hasDict]
    exact plain_noDictAll xs (by simpa [PyData.plain] using h)
  | .tuple xs, h => by
    simp only [PyData.hasDict]
    exact plain_noDictAll xs (by simpa [PyData.plain] using h)
  | .dict _, h => by simp [PyData.plain] at h
theorem plain_noDictAll : ∀ xs : List D, PyData.plainAll xs = true → PyData.hasDictAll xs = false
  | [], _ => by simp [PyData.hasDictAll]
  | x :: xs, h => by
    have h' : x.plain = true ∧ PyData.plainAll xs = true := by simpa [PyData.plainAll] using h
    simp only [PyData.hasDictAll, plain_noDict x h'.1, plain_noDictAll xs h'.2, Bool.or_self]
end
theorem cr_repr (hG : X.A.guards = some []) (hu : X.A.units + 64 < cLine) : CallR X (.builtin "repr") (r1D X.K (bltD .repr)) := by
  intro pins s σ H xs us Q I r h
  obtain ⟨A, O, x, d, l, rfl, rd, w⟩ := h
  obtain ⟨u, rfl, rx⟩ := vals_of r
  have w : (if shows d = true then T.ret (PyData.str d.shown) else .stuck).wp (Beh A O X.K H Q) := by cases d <;> exact w
  obtain ⟨ok, w⟩ := wp_ite w
  unfold shows at ok
  rw [Bool.and_eq_true, Bool.and_eq_true] at ok
  obtain ⟨⟨ok, sh⟩, hz⟩ := ok
  have hz : d.shown.length ≤ sizeLine := Nat.le_trans (of_decide_eq_true hz) szL
  obtain ⟨p, dp⟩ := okd_plain ok
  have fin : ∀ (s' : Shared) (t : Tok), L2.Inv X pins σ H s' → EP X pins σ Q (.str d.shown t) s' := fun s' t I' => ⟨.str d.shown, H, I', ⟨t, rfl⟩, Beh.here w l (.str _)⟩
  cases rd with
  | non => cases rx; exact PySem.P.repr_of_none (fin _ _ (I.tok _))
  | bl b => cases rx; exact PySem.P.repr_of_bool (fin _ _ (I.tok _))
  | int i =>
    obtain ⟨t, rfl⟩ := rx
    exact PySem.P.repr_of_int (by simpa [PyData.showable] using sh) (fin _ _ (I.tok _))
  | str z =>
    obtain ⟨t, rfl⟩ := rx
    exact PySem.P.repr_of_str (fin _ _ (I.tok _)) hz
  | lst h1 h2 rs =>
    obtain ⟨as, ra⟩ := (RD.lst (A := A) (O := O) h1 h2 rs).reads I rx p
    cases rx
    exact repr_of_reads' ra sh (PyData.noDict_hsm (plain_noDict _ p)) hG (by omega) (fun _ _ e => e) (fun h' t tk k => fin _ _ (I.kept k)) hz
  | tup h1 rs =>
    obtain ⟨as, ra⟩ := (RD.tup (A := A) (O := O) h1 rs).reads I rx p
    cases rx
    exact repr_of_reads' ra sh (PyData.noDict_hsm (plain_noDict _ p)) hG (by omega) (fun _ _ e => e) (fun h' t tk k => fin _ _ (I.kept k)) hz
  | spr h => simp [spr, PyData.plain] at p

def tyOf : Ty → String
  | .int => "int" | .bool => "bool" | .str => "str" | .tuple => "tuple" | .list => "list"
theorem isiD_bool (d : D) : isiD d .bool = d.isBool := by cases d <;> rfl
theorem isiD_int (d : D) : isiD d .int = d.isInt := by cases d <;> rfl
theorem isiD_str (d : D) : isiD d .str = d.isStr := by cases d <;> rfl
theorem isiD_tuple (d : D) : isiD d .tuple = d.isTuple := by cases d <;> rfl
theorem isiD_list (d : D) : isiD d .list = d.isList := by cases d <;> rfl
/-- isinstance(x, T) -/
def rIsD (K : PySem.W.Frag) (t : Ty) : List V → Hp → VK → Prop := fun xs H Q => ∃ A O x d, Lay A O H ∧ xs = [x, .ty (tyOf t)] ∧ RD A O K H x d ∧ d.plain = true ∧ Beh A O K H Q (.bool (isiD d t))
theorem cr_isi (t : Ty) : CallR X (.builtin "isinstance") (rIsD X.K t) := by
  intro pins s σ H xs us Q I r h
  obtain ⟨A, O, x, d, l, rfl, rd, p, w⟩ := h
  obtain ⟨u, z, rfl, rx, rz⟩ := Vals.two r
  obtain rfl : z = Value.type (tyOf t) := rz
  obtain ⟨as, ra⟩ := rd.reads I rx p
  have fin : ∀ tk, EP X pins σ Q (.bool (isiD d t)) { s with toks := tk } := fun tk => ⟨.bl _, H, I.tok tk, rfl, w.here l (.bl _)⟩
  cases t with
  | int => rw [isiD_int] at fin; exact PySem.W.isinstance_int_data ra fun tk _ => fin tk
  | bool => rw [isiD_bool] at fin; exact PySem.W.isinstance_bool_data ra fun tk _ => fin tk
  | str => rw [isiD_str] at fin; exact PySem.W.isinstance_str_data ra fun tk _ => fin tk
  | tuple => rw [isiD_tuple] at fin; exact PySem.W.isinstance_tuple_data ra fun tk _ => fin tk
  | list => rw [isiD_list] at fin; exact PySem.W.isinstance_list_data ra fun tk _ => fin tk
end
end Rf

namespace Rf
open PySem PySem.Spec PyProof.Rows L2
variable [Kys]

def un (O N : Addr → Prop) : Addr → Prop := fun a => O a ∨ N a
/-- from one moment of a frame to a later one: own lists may change, new ones may come -/
structure Stp (A : Amb) (N0 : Addr → Prop) (H0 : Hp) (N : Addr → Prop) (H : Hp) : Prop where
  keep : ∀ a o, H0 a = some o → ¬ N0 a → A.aS ≠ some a → H a = some o
  more : ∀ a, N a → N0 a ∨ H0 a = none
section
variable {A : Amb} {O O0 N N0 N1 N2 : Addr → Prop} {K : PySem.W.Frag} {H H0 H1 H2 : Hp} {v : V} {d : D} {vs : List V} {ds : List D}
theorem Stp.refl : Stp A N H N H := ⟨fun _ _ e _ _ => e, fun _ h => .inl h⟩
theorem Stp.sm (s : Sm A H H1) : Stp A N H N H1 := ⟨fun a o e _ n => s a o e n, fun _ h => .inl h⟩
theorem Stp.trans (a : Stp A N0 H0 N1 H1) (b : Stp A N1 H1 N2 H2) (si : A.SI H1) (hp : ∀ a, N2 a → ¬ A.pr a) : Stp A N0 H0 N2 H2 where
  keep := fun c o e n s => b.keep c o (a.keep c o e n s) (fun q => (a.more c q).elim n fun z => by rw [e] at z; cases z) s
  more := fun c h => by
    rcases b.more c h with q | q
    · exact a.more c q
    · cases e : H0 c with
      | none => exact .inr rfl
      | some o =>
        refine .inl (Classical.byContradiction fun n => ?_)
        by_cases s : A.aS = some c
        · exact hp c h (A.tab si s).1
        · rw [a.keep c o e n s] at q; cases q
theorem Stp.lst (s : Stp A N1 H1 N2 H2) (si : A.SI H1) {a : Addr} (h : H1 a = some (.lst vs)) (n : ¬ un O0 N1 a) : H2 a = some (.lst vs) ∧ ¬ un O0 N2 a := by
  refine ⟨s.keep a _ h (fun q => n (.inr q)) fun e => ?_, fun q => ?_⟩
  · obtain ⟨_, kvs, z⟩ := A.tab si e
    rw [h] at z; cases z
  · rcases q with q | q
    · exact n (.inl q)
    · rcases s.more a q with z | z
      · exact n (.inr z)
      · rw [h] at z; cases z
theorem Stp.tup (s : Stp A N1 H1 N2 H2) (si : A.SI H1) (nl : ∀ a, N1 a → ∃ vs, H1 a = some (.lst vs)) {a : Addr} (h : SqT K H1 a vs) : SqT K H2 a vs := by
  rcases h with h | h
  · have ne : A.aS ≠ some a := fun e => by
      obtain ⟨_, kvs, q⟩ := A.tab si e
      exact rd_tupNe h q rfl
    have nn : ¬ N1 a := fun q => by
      obtain ⟨ws, z⟩ := nl a q
      rcases h with h | ⟨o, h⟩ <;> (rw [z] at h; cases h)
    rcases h with h | ⟨o, h⟩
    · exact .inl (.inl (s.keep a _ h nn ne))
    · exact .inl (.inr ⟨o, s.keep a _ h nn ne⟩)
  · exact .inr h
theorem RD.stp (s : Stp A N1 H1 N2 H2) (si : A.SI H1) (nl : ∀ a, N1 a → ∃ vs, H1 a = some (.lst vs)) (r : RD A (un O0 N1) K H1 v d) : RD A (un O0 N2) K H2 v d :=
  r.mono (fun _ _ h n => s.lst si h n) fun _ _ h => s.tup si nl h
theorem RDs.stp (s : Stp A N1 H1 N2 H2) (si : A.SI H1) (nl : ∀ a, N1 a → ∃ vs, H1 a = some (.lst vs)) (r : RDs A (un O0 N1) K H1 vs ds) : RDs A (un O0 N2) K H2 vs ds :=
  r.mono (fun _ _ h n => s.lst si h n) fun _ _ h => s.tup si nl h
end

/-- the walk J gives the data ds, one behind another, from the moment (N1, H1) on -/
def Gv (A : Amb) (O0 N1 : Addr → Prop) (K : PySem.W.Frag) (J : L2.It) (ds : List D) (H1 : Hp) : Prop :=
  ∀ N2 H2, Stp A N1 H1 N2 H2 → Lay A (un O0 N2) H2 → ∀ i,
    (∀ d, ds[i]? = some d → J.go i H2 ∧ ∀ x H3, J.yld i H2 x H3 → RD A (un O0 N2) K H3 x d ∧ Sm A H2 H3 ∧ A.SI H3) ∧ (i = ds.length → J.stop i H2)

section
variable {A : Amb} {O0 N1 : Addr → Prop} {K : PySem.W.Frag} {H1 : Hp} {vs : List V} {ds : List D} {a : Addr}
theorem sqL_of {H : Hp} (h : H a = some (.lst vs)) : SqL K H a vs := .inl (.inl h)
/-- a list at an address that no frame of ours owns reads one way -/
theorem gv_list (nl : ∀ a, N1 a → ∃ vs, H1 a = some (.lst vs)) (si : A.SI H1) (h : H1 a = some (.lst vs)) (n : ¬ un O0 N1 a) (r : RDs A (un O0 N1) K H1 vs ds) : Gv A O0 N1 K (Itl K a) ds H1 := by
  intro N2 H2 s l i
  have h2 : H2 a = some (.lst vs) := (s.lst (O0 := O0) si h n).1
  have r2 := r.stp s si nl
  refine ⟨fun d e => ?_, fun e => ⟨vs, sqL_of h2, by rw [r.length, e]; exact Nat.le_refl _⟩⟩
  obtain ⟨v, ev, rd⟩ := r2.get e
  refine ⟨⟨vs, v, sqL_of h2, ev⟩, fun x H3 y => ?_⟩
  obtain ⟨rfl, y⟩ := y
  have ex := y vs (sqL_of h2)
  rw [ev] at ex
  cases ex
  exact ⟨rd, Sm.refl, l.si⟩
theorem gv_tup (nl : ∀ a, N1 a → ∃ vs, H1 a = some (.lst vs)) (si : A.SI H1) (h : SqT K H1 a vs) (r : RDs A (un O0 N1) K H1 vs ds) : Gv A O0 N1 K (Itt K a) ds H1 := by
  intro N2 H2 s l i
  have h2 : SqT K H2 a vs := s.tup si nl h
  have r2 := r.stp s si nl
  refine ⟨fun d e => ?_, fun e => ⟨vs, h2, by rw [r.length, e]; exact Nat.le_refl _⟩⟩
  obtain ⟨v, ev, rd⟩ := r2.get e
  refine ⟨⟨vs, v, h2, ev⟩, fun x H3 y => ?_⟩
  obtain ⟨rfl, y⟩ := y
  have ex := y vs h2
  rw [ev] at ex
  cases ex
  exact ⟨rd, Sm.refl, l.si⟩
theorem gv_str (x : Str) : Gv A O0 N1 K (Its x) (signs x) H1 := by
  intro N2 H2 s l i
  refine ⟨fun d e => ?_, fun e => ?_⟩
  · unfold signs at e
    rw [List.getElem?_map] at e
    obtain ⟨c, ec, rfl⟩ := Option.map_eq_some_iff.mp e
    have ec' : x.cps[i]? = some c := by simpa using ec
    refine ⟨?_, fun z H3 y => ?_⟩
    · obtain ⟨q, _⟩ := Array.getElem?_eq_some_iff.mp ec'
      exact q
    · obtain ⟨rfl, c', e', rfl⟩ := y
      rw [ec'] at e'
      cases e'
      exact ⟨.str _, Sm.refl, l.si⟩
  · subst e
    show x.cps.size ≤ (signs x).length
    unfold signs
    simp
theorem gv_range (n : Nat) : Gv A O0 N1 K (Itr 0 n) ((List.range n).map fun (i : Nat) => PyData.int (i : Int)) H1 := by
  intro N2 H2 s l i
  refine ⟨fun d e => ?_, fun e => ?_⟩
  · rw [List.getElem?_map] at e
    obtain ⟨j, ej, rfl⟩ := Option.map_eq_some_iff.mp e
    obtain ⟨hj, ej⟩ := List.getElem?_eq_some_iff.mp ej
    rw [List.getElem_range] at ej
    subst ej
    refine ⟨show i < n by simpa using hj, fun z H3 y => ?_⟩
    obtain ⟨rfl, rfl⟩ := y
    rw [Int.zero_add]
    exact ⟨.int _, Sm.refl, l.si⟩
  · subst e
    show n ≤ _
    simp
end

section
variable {X : Cx} {tg : Expr} {pins : List (Addr × Obj)} {σ : L2.St} {H : Hp} {s : Shared} {R : L2.It → Hp → Prop} {E : Value → Shared → Prop}
theorem walk_list {a : Addr} {xs : List V} (I : L2.Inv X pins σ H s) (h : SqL X.K H a xs) (q : R (Itl X.K a) H) : wpAny (model X.prog X.w) X.A (pyIter (.ref a)) (PIE X pins σ tg R) E s := by
  obtain ⟨its, rv, p, hz⟩ := I.list h
  exact wpAny_pyIter_list p.isList (pi_one (tk := s.toks) I _ (turn_list a _) ⟨_, Heap.get?_push_size _ rfl, rfl, rfl⟩ q)
theorem walk_tup {a : Addr} {xs : List V} (I : L2.Inv X pins σ H s) (h : SqT X.K H a xs) (q : R (Itt X.K a) H) : wpAny (model X.prog X.w) X.A (pyIter (.ref a)) (PIE X pins σ tg R) E s := by
  obtain ⟨its, rv, p, hz⟩ := I.tuple h
  exact wpAny_pyIter_tuple (show s.heap.IsTuple a its.toArray from p) (pi_one (tk := s.toks) I _ (turn_tuple a _) ⟨_, Heap.get?_push_size _ rfl, rfl, rfl⟩ q)
theorem walk_str {x : Str} {t : Tok} (I : L2.Inv X pins σ H s) (q : R (Its x) H) : wpAny (model X.prog X.w) X.A (pyIter (.str x t)) (PIE X pins σ tg R) E s := by
  cases ha : x.cps.all (· < 128) with
  | false => exact wpAny_pyIter_wide ha (pi_one (tk := s.toks) I _ (turn_str _ x t "str_iterator" (.inr rfl)) ⟨_, Heap.get?_push_size _ rfl, rfl, rfl⟩ q)
  | true => exact wpAny_pyIter_ascii ha (pi_one (tk := s.toks) I _ (turn_str _ x t "str_ascii_iterator" (.inl rfl)) ⟨_, Heap.get?_push_size _ rfl, rfl, rfl⟩ q)
end

/-- the reading of what is walked -/
def tI (K : PySem.W.Frag) (m : Env → T (List D)) : TI := fun σ H R => ∃ A O0 N ρ, Rel A (un O0 N) K ρ σ H ∧ (∀ a, N a → ∃ vs, H a = some (.lst vs)) ∧ (m ρ).wp fun ds => ∀ J H', Gv A O0 N K J ds H' → Sm A H H' → A.SI H' → R J H'
theorem nl_sm {A : Amb} {N : Addr → Prop} {H H' : Hp} (nl : ∀ a, N a → ∃ vs, H a = some (.lst vs)) (s : Sm A H H') (si : A.SI H) : ∀ a, N a → ∃ vs, H' a = some (.lst vs) := fun a h => by
  obtain ⟨vs, e⟩ := nl a h
  exact ⟨vs, lst_sm s si e⟩
section
variable {X : Cx} {tg e : Expr} {m : M}
theorem PI.imp {t t' : TI} (h : PI X tg e t) (i : ∀ σ H Q, t' σ H Q → t σ H Q) : PI X tg e t' := ⟨fun pins s σ H Q I q => h.run pins s σ H Q I (i _ _ _ q)⟩
/-- over a list, a tuple, a text -/
theorem pi_exp (he : PE X e (tD X.K m)) : PI X tg e (tI X.K fun ρ => (m ρ).bind itemsOf) := by
  refine ⟨fun pins s σ H R I h => ?_⟩
  obtain ⟨A, O0, N, ρ, r, nl, w⟩ := h
  have key : tD X.K m σ H fun v H1 => ∃ d, RD A (un O0 N) X.K H1 v d ∧ Sm A H H1 ∧ A.SI H1 ∧ (itemsOf d).wp fun ds => ∀ J H', Gv A O0 N X.K J ds H' → Sm A H H' → A.SI H' → R J H' :=
    ⟨A, un O0 N, ρ, r, T.wp_mono (fun d q v H1 rd sm si => ⟨d, rd, sm, si, q⟩) (T.wp_bind.mp w)⟩
  refine thn (he.run pins s σ H _ I key) fun u s1 ⟨v, H1, I1, r1, d, rd, sm, si, q⟩ => ?_
  have nl1 := nl_sm nl sm r.si
  cases rd with
  | lst h1 h2 rs =>
    cases r1
    exact walk_list I1 (sqL_of h1) (q _ _ (gv_list nl1 si h1 h2 rs) sm si)
  | tup h1 rs =>
    cases r1
    exact walk_tup I1 h1 (q _ _ (gv_tup nl1 si h1 rs) sm si)
  | str z =>
    obtain ⟨t, rfl⟩ := r1
    obtain ⟨_, q⟩ := wp_ite q
    exact walk_str I1 (q _ _ (gv_str z) sm si)
  | _ => exact q.elim
theorem pi_rng {p pos : Pos} (hg : Gl X "range") (hm : X.mg "range" = none) (he : PA X [e] (tCons (tD X.K m) tNil)) (hs : starEach [e] X.env = [(false, eval e X.env)]) :
    PI X tg (.Call (.Name "range" p) [e] [] pos) (tI X.K fun ρ => (m ρ).bind fun x => (isI x).bind fun n => if -(sz : Int) ≤ n ∧ n ≤ (sz : Int) then .ret ((List.range n.toNat).map fun (i : Nat) => PyData.int (i : Int)) else .stuck) := by
  refine PI.imp (pi_range1 hg hm he hs) fun σ H R h => ?_
  obtain ⟨A, O0, N, ρ, r, nl, w⟩ := h
  refine ⟨A, un O0 N, ρ, r, T.wp_mono (fun d q v H1 rd sm si => ?_) (T.wp_bind.mp w)⟩
  cases rd with
  | int n =>
    have q : (if -(sz : Int) ≤ n ∧ n ≤ (sz : Int) then T.ret ((List.range n.toNat).map fun (i : Nat) => PyData.int (i : Int)) else .stuck).wp _ := q
    obtain ⟨hz, q⟩ := wp_ite q
    have : sz = 1000000 := rfl
    exact ⟨n, rfl, by omega, by omega, q _ _ (gv_range _) sm si⟩
  | _ => exact q.elim
end
end Rf

namespace Rf
open PySem PySem.Spec PyProof.Rows L2
variable [Kys]

section
variable {A : Amb} {O : Addr → Prop} {K : PySem.W.Frag} {ρ : Env} {σ : L2.St} {H : Hp}
theorem set_get {α : Type} {l : List α} {i j : Nat} {x y : α} (h : (l.set i x)[j]? = some y) : (j = i ∧ i < l.length ∧ x = y) ∨ (j ≠ i ∧ l[j]? = some y) := by
  by_cases e : i = j
  · subst e
    by_cases hl : i < l.length
    · rw [List.getElem?_set_self hl] at h
      cases h
      exact .inl ⟨rfl, hl, rfl⟩
    · rw [List.getElem?_eq_none (by simpa using hl)] at h
      cases h
  · rw [List.getElem?_set_ne e] at h
    exact .inr ⟨fun z => e z.symm, h⟩
theorem Rel.set (r : Rel A O K ρ σ H) (i : Nat) {v : V} {d : D} (rd : RD A O K H v d) : Rel A O K (ρ.set i (.val d)) (σ.set i (some v)) H where
  len := by rw [List.length_set, List.length_set]; exact r.len
  val := fun j d' e => by
    rcases set_get e with ⟨rfl, hl, e⟩ | ⟨n, e⟩
    · cases e
      exact ⟨v, List.getElem?_set_self (by rw [← r.len]; exact hl), rd⟩
    · rw [List.getElem?_set_ne (Ne.symm n)]
      exact r.val j d' e
  own := fun j ds e => by
    rcases set_get e with ⟨rfl, hl, e⟩ | ⟨n, e⟩
    · cases e
    · rw [List.getElem?_set_ne (Ne.symm n)]
      exact r.own j ds e
  uniq := fun j k ds es a e1 e2 e3 e4 => by
    rcases set_get e1 with ⟨_, _, e⟩ | ⟨n1, e1⟩
    · cases e
    · rcases set_get e2 with ⟨_, _, e⟩ | ⟨n2, e2⟩
      · cases e
      · rw [List.getElem?_set_ne (Ne.symm n1)] at e3
        rw [List.getElem?_set_ne (Ne.symm n2)] at e4
        exact r.uniq j k ds es a e1 e2 e3 e4
  trk := r.trk
  npr := r.npr
  si := r.si
theorem Rel.unset (r : Rel A O K ρ σ H) (i : Nat) : Rel A O K (ρ.set i .no) (σ.set i none) H where
  len := by rw [List.length_set, List.length_set]; exact r.len
  val := fun j d' e => by
    rcases set_get e with ⟨_, _, e⟩ | ⟨n, e⟩
    · cases e
    · rw [List.getElem?_set_ne (Ne.symm n)]
      exact r.val j d' e
  own := fun j ds e => by
    rcases set_get e with ⟨_, _, e⟩ | ⟨n, e⟩
    · cases e
    · rw [List.getElem?_set_ne (Ne.symm n)]
      exact r.own j ds e
  uniq := fun j k ds es a e1 e2 e3 e4 => by
    rcases set_get e1 with ⟨_, _, e⟩ | ⟨n1, e1⟩
    · cases e
    · rcases set_get e2 with ⟨_, _, e⟩ | ⟨n2, e2⟩
      · cases e
      · rw [List.getElem?_set_ne (Ne.symm n1)] at e3
        rw [List.getElem?_set_ne (Ne.symm n2)] at e4
        exact r.uniq j k ds es a e1 e2 e3 e4
  trk := r.trk
  npr := r.npr
  si := r.si
theorem Rel.wipe (r : Rel A O K ρ σ H) : ∀ vs : List Nat, Rel A O K (Rf.wipe ρ vs) (L2.wipe σ vs) H
  | [] => r
  | v :: vs => (r.wipe vs).unset v
theorem wipe_set (σ : L2.St) (i : Nat) (x : Option V) : ∀ vs : List Nat, i ∈ vs → L2.wipe (σ.set i x) vs = L2.wipe σ vs
  | [], h => by cases h
  | v :: vs, h => by
    show (L2.wipe (σ.set i x) vs).set v none = (L2.wipe σ vs).set v none
    by_cases hm : i ∈ vs
    · rw [wipe_set σ i x vs hm]
    · have e : v = i := by
        rcases List.mem_cons.mp h with e | e
        · exact e.symm
        · exact absurd e hm
      subst e
      have gen : ∀ us : List Nat, v ∉ us → L2.wipe (σ.set v x) us = (L2.wipe σ us).set v x := by
        intro us
        induction us with
        | nil => intro _; rfl
        | cons u us ih =>
          intro hn
          rw [List.mem_cons, not_or] at hn
          show (L2.wipe (σ.set v x) us).set u none = ((L2.wipe σ us).set u none).set v x
          rw [ih hn.2, List.set_comm _ _ hn.1]
      rw [gen vs hm, List.set_set]
/-- the wiped again -/
theorem wipe_idem (σ : L2.St) : ∀ vs : List Nat, L2.wipe (L2.wipe σ vs) vs = L2.wipe σ vs := by
  intro vs
  have gen : ∀ us vs : List Nat, (∀ i ∈ us, i ∈ vs) → L2.wipe (L2.wipe σ us) vs = L2.wipe σ vs := by
    intro us
    induction us with
    | nil => intro _ _; rfl
    | cons u us ih =>
      intro vs h
      show L2.wipe ((L2.wipe σ us).set u none) vs = _
      rw [wipe_set _ _ _ _ (h u (List.mem_cons_self ..)), ih vs fun i hi => h i (List.mem_cons_of_mem _ hi)]
  exact gen vs vs fun _ h => h
end

def slots : Tg → List Nat
  | .nm i => [i]
  | .tp is => is
def gNames : List Nat → TGs
  | [] => gNil
  | i :: r => gCons (gName i) (gNames r)
def gOf (K : PySem.W.Frag) : Tg → TG
  | .nm i => gName i
  | .tp is => gTup K is.length (gNames is)
section
variable {A : Amb} {O : Addr → Prop} {K : PySem.W.Frag} {H : Hp}
theorem gNames_ok {Q : L2.St → Hp → Prop} : ∀ {is : List Nat} {ds : List D} {vs : List V} {ρ ρ' : Env} {σ : L2.St}, Rel A O K ρ σ H → RDs A O K H vs ds → setAll is ds ρ = some ρ' →
    (∀ σ', Rel A O K ρ' σ' H → (∀ ws : List Nat, (∀ i ∈ is, i ∈ ws) → L2.wipe σ' ws = L2.wipe σ ws) → (∀ (j : Nat) (es : List D) (a : Addr), ρ'[j]? = some (SV.own es) → σ'[j]? = some (some (V.ref a)) → ρ[j]? = some (SV.own es) ∧ σ[j]? = some (some (V.ref a))) → Q σ' H) → gNames is vs σ H Q
  | [], _, _, _, _, σ, r, .nil, e, q => by
    have e : some _ = some _ := e
    cases e
    exact ⟨rfl, q σ r (fun _ _ => rfl) fun _ _ _ h1 h2 => ⟨h1, h2⟩⟩
  | [], _, _, _, _, _, _, .cons _ _, e, _ => nomatch e
  | _ :: _, _, _, _, _, _, _, .nil, e, _ => nomatch e
  | i :: is, _, _, ρ, ρ', σ, r, .cons (v := v) (d := d) h rs, e, q => by
    refine ⟨_, _, rfl, gNames_ok (r.set i h) rs e fun σ' r' hw ho => q σ' r' (fun ws hi => ?_) fun j es a h1 h2 => ?_⟩
    · rw [hw ws fun j hj => hi j (List.mem_cons_of_mem _ hj)]
      exact wipe_set _ _ _ _ (hi i (List.mem_cons_self ..))
    · obtain ⟨g1, g2⟩ := ho j es a h1 h2
      rcases set_get g1 with ⟨_, _, z⟩ | ⟨n, g1⟩
      · cases z
      · rw [List.getElem?_set_ne (Ne.symm n)] at g2
        exact ⟨g1, g2⟩
theorem setAll_len : ∀ {is : List Nat} {ds : List D} {ρ ρ' : Env}, setAll is ds ρ = some ρ' → is.length = ds.length
  | [], [], _, _, _ => rfl
  | [], _ :: _, _, _, e => nomatch e
  | _ :: _, [], _, _, e => nomatch e
  | _ :: is, _ :: ds, _, _, e => congrArg (· + 1) (setAll_len (is := is) (ds := ds) e)
theorem gOf_okO {tg : Tg} {d : D} {v : V} {ρ ρ' : Env} {σ : L2.St} {Q : L2.St → Hp → Prop} (r : Rel A O K ρ σ H) (rd : RD A O K H v d) (e : bindTg tg d ρ = some ρ')
    (q : ∀ σ', Rel A O K ρ' σ' H → (∀ ws : List Nat, (∀ i ∈ slots tg, i ∈ ws) → L2.wipe σ' ws = L2.wipe σ ws) → (∀ (j : Nat) (es : List D) (a : Addr), ρ'[j]? = some (SV.own es) → σ'[j]? = some (some (V.ref a)) → ρ[j]? = some (SV.own es) ∧ σ[j]? = some (some (V.ref a))) → Q σ' H) : gOf K tg v σ H Q := by
  cases tg with
  | nm i =>
    have e : some (ρ.set i (.val d)) = some ρ' := e
    cases e
    refine q _ (r.set i rd) (fun ws h => wipe_set _ _ _ _ (h i (List.mem_singleton.mpr rfl))) fun j es a h1 h2 => ?_
    rcases set_get h1 with ⟨_, _, z⟩ | ⟨n, h1⟩
    · cases z
    · rw [List.getElem?_set_ne (Ne.symm n)] at h2
      exact ⟨h1, h2⟩
  | tp is =>
    cases rd with
    | tup h1 rs =>
      have e' : setAll is _ ρ = some ρ' := e
      exact ⟨_, _, rfl, h1, by rw [rs.length, setAll_len e'], gNames_ok r rs e' q⟩
    | _ => exact nomatch e
theorem gOf_ok {tg : Tg} {d : D} {v : V} {ρ ρ' : Env} {σ : L2.St} {Q : L2.St → Hp → Prop} (r : Rel A O K ρ σ H) (rd : RD A O K H v d) (e : bindTg tg d ρ = some ρ')
    (q : ∀ σ', Rel A O K ρ' σ' H → (∀ ws : List Nat, (∀ i ∈ slots tg, i ∈ ws) → L2.wipe σ' ws = L2.wipe σ ws) → Q σ' H) : gOf K tg v σ H Q := gOf_okO r rd e fun σ' r' h _ => q σ' r' h
end

section
variable {A : Amb} {O : Addr → Prop} {K : PySem.W.Frag} {ρ : Env} {σ : L2.St} {H : Hp} {p : Addr} {o : HO} {xs : List V}
theorem tup_upd (hp : H p = some (.lst xs)) {a : Addr} {vs : List V} (h : SqT K H a vs) : SqT K (upd H p o) a vs := by
  rcases h with h | h
  · have ne : a ≠ p := by
      rintro rfl
      rcases h with h | ⟨_, h⟩ <;> (rw [hp] at h; cases h)
    rcases h with h | ⟨ob, h⟩
    · exact .inl (.inl (by rw [upd_ne ne]; exact h))
    · exact .inl (.inr ⟨ob, by rw [upd_ne ne]; exact h⟩)
  · exact .inr h
theorem RD.upd (hO : O p) (hp : H p = some (.lst xs)) {v : V} {d : D} (r : RD A O K H v d) : RD A O K (L2.upd H p o) v d :=
  r.mono (fun a vs h n => ⟨by rw [upd_ne (show a ≠ p from fun e => n (e ▸ hO))]; exact h, n⟩) fun _ _ h => tup_upd hp h
theorem RDs.upd (hO : O p) (hp : H p = some (.lst xs)) {v : List V} {d : List D} (r : RDs A O K H v d) : RDs A O K (L2.upd H p o) v d :=
  r.mono (fun a vs h n => ⟨by rw [upd_ne (show a ≠ p from fun e => n (e ▸ hO))]; exact h, n⟩) fun _ _ h => tup_upd hp h
theorem Rel.upd (r : Rel A O K ρ σ H) (hO : O p) (hp : H p = some (.lst xs)) (hs : ∀ (i : Nat) (ds : List D) (a : Addr), ρ[i]? = some (SV.own ds) → σ[i]? = some (some (V.ref a)) → a ≠ p) : Rel A O K ρ σ (L2.upd H p o) where
  len := r.len
  val := fun i d e => let ⟨v, h1, h2⟩ := r.val i d e; ⟨v, h1, h2.upd hO hp⟩
  own := fun i ds e => let ⟨a, vs, h1, h2, h3, h4⟩ := r.own i ds e; ⟨a, vs, h1, by rw [upd_ne (hs i ds a e h1)]; exact h2, h3.upd hO hp, h4⟩
  uniq := r.uniq
  trk := fun a h => by
    by_cases e : a = p
    · subst e; rw [upd_same]; simp
    · rw [upd_ne e]; exact r.trk a h
  npr := r.npr
  si := A.keep r.si fun a ha => upd_ne fun e => r.npr p hO (e ▸ ha)
/-- one more own address, freshly laid -/
theorem Rel.more (r : Rel A O K ρ σ H) {p : Addr} (hp : H p = none) (o : HO) : Rel A (un O (· = p)) K ρ σ (L2.upd H p o) := by
  have r1 := r.new (o := o) hp
  have lift : ∀ {v : V} {d : D}, RD A O K H v d → RD A (un O (· = p)) K (L2.upd H p o) v d := fun h =>
    h.mono (fun a vs e n => ⟨by rw [upd_ne (ne_of_none e hp)]; exact e, fun q => q.elim n fun z => by rw [z, hp] at e; cases e⟩) fun a vs e => sqT_sm (A := A) (Sm.new hp) r.si e
  have lifts : ∀ {v : List V} {d : List D}, RDs A O K H v d → RDs A (un O (· = p)) K (L2.upd H p o) v d := fun h =>
    h.mono (fun a vs e n => ⟨by rw [upd_ne (ne_of_none e hp)]; exact e, fun q => q.elim n fun z => by rw [z, hp] at e; cases e⟩) fun a vs e => sqT_sm (A := A) (Sm.new hp) r.si e
  exact ⟨r.len, fun i d e => let ⟨v, h1, h2⟩ := r.val i d e; ⟨v, h1, lift h2⟩,
    fun i ds e => let ⟨a, vs, h1, h2, h3, h4⟩ := r.own i ds e; ⟨a, vs, h1, by rw [upd_ne (ne_of_none h2 hp)]; exact h2, lifts h3, .inl h4⟩, r.uniq,
    fun a h => h.elim (r1.trk a) fun z => by rw [z, upd_same]; simp, fun a h => h.elim (r.npr a) fun z => by rw [z]; exact fun q => A.there r.si q hp, r1.si⟩
end

theorem un_no (O : Addr → Prop) : un O (fun _ => False) = O := by
  funext a
  exact propext ⟨fun h => h.elim id False.elim, .inl⟩

/-- a test's reading tt answers as mc says -/
def TOk (K : PySem.W.Frag) (tt : TT) (mc : Env → T Bool) : Prop :=
  ∀ A O ρ σ H Q, Rel A O K ρ σ H → ((mc ρ).wp fun b => ∀ H', Sm A H H' → A.SI H' → Q b H') → tt σ H Q
theorem tok_yes (K : PySem.W.Frag) : TOk K tYes fun _ => .ret true := fun A O ρ σ H Q r w => w H Sm.refl r.si
theorem tok_b (K : PySem.W.Frag) (m : M) : TOk K (tDb K m) fun ρ => (m ρ).bind isB := fun A O ρ σ H Q r w => by
  refine ⟨A, O, ρ, r, T.wp_mono (fun d q => ?_) (T.wp_bind.mp w)⟩
  cases d with
  | bool b => exact ⟨b, rfl, q⟩
  | _ => exact q.elim

theorem none_back {A : Amb} {H H1 : Hp} {p : Addr} (sm : Sm A H H1) (si : A.SI H1) (hp : H1 p = none) : H p = none := by
  cases e : H p with
  | none => rfl
  | some o =>
    by_cases n : A.aS = some p
    · exact absurd hp (A.there si (A.tab si n).1)
    · rw [sm p o e n] at hp; cases hp
theorem lc_gen {K : PySem.W.Frag} {mi : Env → T (List D)} {tg : Tg} {vs : List Nat} {tt : TT} {mc : Env → T Bool} {me : M} (hv : ∀ i ∈ slots tg, i ∈ vs) (ht : TOk K tt mc) {σ : L2.St} {H : Hp} {Q : VK}
    (h : ∃ A O ρ, Rel A O K ρ σ H ∧ (mi ρ).wp fun ds => ds.length ≤ sz ∧ (lcGo (lcTurn tg vs mc me ρ) ds).wp fun ys => ∀ p ws H', H p = none → H' p = some (.lst ws) → RDs A (un O (· = p)) K H' ws ys → Sm A H H' → A.SI H' → Q (.ref p) H') : tLc (tI K mi) (gOf K tg) tt (tD K me) vs σ H Q := by
  obtain ⟨A, O, ρ, r, w⟩ := h
  refine ⟨A, O, fun _ => False, ρ, by rw [un_no]; exact r, fun _ z => z.elim, T.wp_mono (fun ds q J H1 gv sm si p hp => ?_) w⟩
  have r1 := r.sm sm si
  have nO : ¬ O p := r1.fresh hp
  have hown : ∀ (i : Nat) (es : List D) (a : Addr), (Rf.wipe ρ vs)[i]? = some (SV.own es) → (L2.wipe σ vs)[i]? = some (some (V.ref a)) → a ≠ p := fun i es a e1 e2 e => by
    obtain ⟨b, ws, g1, g2, _, g4⟩ := (r1.wipe vs).own i es e1
    rw [e2] at g1
    cases g1
    exact nO (e ▸ g4)
  obtain ⟨hz, q⟩ := q
  have hp0 : H p = none := none_back sm si hp
  have sizeB : ds.length ≤ sizeLine := Nat.le_trans hz szL
  refine ⟨fun i m Hc => m = ds.length - i ∧ i ≤ ds.length ∧ ∃ acc ys, Sm A H1 Hc ∧ Rel A (un O (· = p)) K (Rf.wipe ρ vs) (L2.wipe σ vs) Hc ∧ Hc p = some (.lst acc) ∧ RDs A (un O (· = p)) K Hc acc ys ∧ acc.length ≤ i ∧
    (lcGo (lcTurn tg vs mc me ρ) (ds.drop i)).wp fun zs => ∀ ws H', H' p = some (.lst ws) → RDs A (un O (· = p)) K H' ws (ys ++ zs) → Sm A H H' → A.SI H' → Q (.ref p) H', ⟨_, rfl, Nat.zero_le _, [], [], Sm.new hp, (r1.wipe vs).more hp _, upd_same, .nil, Nat.le_refl _, ?_⟩, ?_⟩
  · exact T.wp_mono (fun zs z ws H' h1 h2 => z p ws H' hp0 h1 h2) q
  · rintro i m Hi ⟨rfl, hi, acc, ys, smi, ri, hacc, rs, la, wi⟩
    have st : Stp A (fun _ => False) H1 (· = p) Hi := ⟨fun a o e _ n => smi a o e n, fun a e => .inr (by have e : a = p := e; rw [e]; exact hp)⟩
    have g := gv (· = p) Hi st ri.lay i
    by_cases hlt : i < ds.length
    · obtain ⟨go, yl⟩ := g.1 ds[i] (List.getElem?_eq_getElem hlt)
      refine .inr ⟨go, _, fun H' z => ⟨ds.length - (i + 1), by omega, z⟩, fun x H3 y => ?_⟩
      obtain ⟨rdx, sm3, si3⟩ := yl x H3 y
      have r3 := ri.sm sm3 si3
      rw [List.drop_eq_getElem_cons hlt] at wi
      have wi := T.wp_bind.mp wi
      unfold lcTurn at wi
      obtain ⟨ρ', eb, wi⟩ := wp_orStuck (T.wp_bind.mp wi)
      refine gOf_ok r3 rdx eb fun σ2 r4 hw => ⟨(hw vs hv).trans (wipe_idem σ vs), ht A _ ρ' σ2 H3 _ r4 (T.wp_mono (fun b wb H4 sm4 si4 => ?_) (T.wp_bind.mp wi))⟩
      have nS : A.aS ≠ some p := fun e => A.there si (A.tab si e).1 hp
      have smA : Sm A Hi H4 := sm3.trans sm4
      cases b with
      | false =>
        rw [if_neg Bool.false_ne_true]
        have wb : (lcGo _ (ds.drop (i + 1))).wp _ := T.wp_bind.mp wb
        exact ⟨rfl, hlt, acc, ys, smi.trans smA, ri.sm smA si4, smA p _ hacc nS, rs.sm smA ri.si, Nat.le_succ_of_le la, wb⟩
      | true =>
        rw [if_pos rfl]
        rw [if_pos rfl] at wb
        refine ⟨A, _, ρ', r4.sm sm4 si4, T.wp_mono (fun d wd y' H5 rd5 sm5 si5 => ?_) (T.wp_bind.mp wb)⟩
        have smB : Sm A Hi H5 := smA.trans sm5
        have a5 : H5 p = some (.lst acc) := smB p _ hacc nS
        have O5 : un O (· = p) p := .inr rfl
        refine ⟨acc, a5, Nat.lt_of_le_of_lt la (Nat.lt_of_lt_of_le hlt sizeB), rfl, hlt, acc ++ [y'], ys ++ [d], ?_, ?_, upd_same, ?_, ?_, ?_⟩
        · intro a o e n
          have q5 := (smi.trans smB) a o e n
          rw [upd_ne (ne_of_none e hp)]
          exact q5
        · exact (ri.sm smB si5).upd O5 a5 hown
        · exact ((rs.sm smB ri.si).append (.cons rd5 .nil)).upd O5 a5
        · rw [List.length_append]
          exact Nat.succ_le_succ la
        · have wd : (lcGo _ (ds.drop (i + 1))).wp _ := T.wp_bind.mp wd
          refine T.wp_mono (fun zs z => ?_) wd
          rw [List.append_assoc]
          exact z
    · have e : i = ds.length := by omega
      subst e
      rw [List.drop_length] at wi
      have wi : ∀ ws H', H' p = some (.lst ws) → RDs A (un O (· = p)) K H' ws (ys ++ []) → Sm A H H' → A.SI H' → Q (.ref p) H' := wi
      rw [List.append_nil] at wi
      exact .inl ⟨g.2 rfl, wi _ _ hacc rs (sm.trans smi) ri.si⟩
theorem lc_read {K : PySem.W.Frag} {mi : Env → T (List D)} {tg : Tg} {vs : List Nat} {tt : TT} {mc : Env → T Bool} {me : M} (hv : ∀ i ∈ slots tg, i ∈ vs) (ht : TOk K tt mc) {σ : L2.St} {H : Hp} {Q : VK}
    (h : tD K (fun ρ => (mi ρ).bind fun ds => lcRun (lcTurn tg vs mc me ρ) ds) σ H Q) : tLc (tI K mi) (gOf K tg) tt (tD K me) vs σ H Q := by
  obtain ⟨A, O, ρ, r, w⟩ := h
  refine lc_gen hv ht ⟨A, O, ρ, r, T.wp_mono (fun ds q => ?_) (T.wp_bind.mp w)⟩
  obtain ⟨hz, q⟩ := wp_ite q
  refine ⟨hz, T.wp_mono (fun ys z p ws H' hp h1 h2 sm si => ?_) (T.wp_bind.mp q)⟩
  exact z _ _ (.lst h1 (r.fresh hp) (h2.less fun a q => .inl q)) sm si
end Rf

namespace Rf
open PySem PySem.Spec PyProof.Rows L2
variable [Kys]

/-- the names that a text leans on: the module's constants, its defs, how they are called -/
structure Stat where
  gn : List Str
  gs : List D
  dn : List Str
  fs : List Form

def visB (sc : Scope) (x : Str) : Bool := match sc.names.lookup x with
  | some .local => true
  | some .cell => true
  | some .free => true
  | _ => false
def locB (sc : Scope) (x : Str) : Bool := match sc.names.lookup x with
  | some .local => true
  | some .cell => true
  | _ => false
def glB (sc : Scope) (x : Str) : Bool := match sc.names.lookup x with
  | some .globalImplicit => true
  | _ => false
theorem visB_ok {sc : Scope} {x : Str} (h : visB sc x = true) : Vis sc x := by
  unfold visB at h
  split at h
  · exact .inl (by assumption)
  · exact .inr (.inl (by assumption))
  · exact .inr (.inr (by assumption))
  · cases h
theorem locB_ok {sc : Scope} {x : Str} (h : locB sc x = true) : Loc sc x := by
  unfold locB at h
  split at h
  · exact .inl (by assumption)
  · exact .inr (by assumption)
  · cases h
theorem glB_ok {X : Cx} {x : Str} (h : glB X.env.scope x = true) : Gl X x := by
  unfold glB at h
  split at h
  · assumption
  · cases h
def nmB (x : Str) : Bool := !(x == ("__debug__" : Str)) && !(x == ("__classdict__" : Str)) && decide (x ≠ "__name__")
theorem nmB_ok {x : Str} (h : nmB x = true) : (x == ("__debug__" : Str)) = false ∧ (x == ("__classdict__" : Str)) = false ∧ x ≠ "__name__" := by
  unfold nmB at h
  rw [Bool.and_eq_true, Bool.and_eq_true] at h
  obtain ⟨⟨h1, h2⟩, h3⟩ := h
  exact ⟨by simpa using h1, by simpa using h2, of_decide_eq_true h3⟩

def noStar : Expr → Bool
  | .Starred _ _ => false
  | _ => true
def noSet : Expr → Bool
  | .Set _ _ _ => false
  | _ => true
def noSlice : Expr → Bool
  | .Slice _ _ _ _ => false
  | _ => true
def noIte : Expr → Bool
  | .IfExp _ _ _ _ => false
  | _ => true
theorem star_of {x : Expr} (h : noStar x = true) (rest : List Expr) (env : PySem.Env) : starEach (x :: rest) env = (false, eval x env) :: starEach rest env := by
  cases x <;> first | rfl | (exact absurd h (by simp [noStar]))
theorem marks_of {x : Expr} (h : noSet x = true) (op : CmpOp) : behindInMarks op x = false := by
  cases x <;> first | rfl | (exact absurd h (by simp [noSet]))
theorem fold_of {x : Expr} (h : noSet x = true) (env : PySem.Env) (v : Value) : foldedSetIterable x env v = pure v := by
  cases x <;> first | rfl | (exact absurd h (by simp [noSet]))
theorem plain_of {x : Expr} (h : noSlice x = true) : PlainIx x := by
  intro o i
  cases x <;> first | rfl | (exact absurd h (by simp [noSlice]))

def cstB : D → Const → Bool
  | .none, .none => true
  | .bool a, .bool b => a == b
  | .int i, .int j => i == j
  | .str x, .str y => decide (x = y)
  | _, _ => false
def bltN : Blt → Str
  | .len => "len" | .tuple => "tuple" | .list => "list" | .int => "int" | .str => "str" | .repr => "repr" | .all => "all" | .any => "any"

def tgB (N : List Str) (sc : Scope) (isDef : Bool) : Tg → Expr → Bool
  | .nm i, x => nmT N sc isDef i x
  | .tp is, .Tuple xs _ _ => nmTs N sc isDef is xs
  | _, _ => false
where
  nmT (N : List Str) (sc : Scope) (isDef : Bool) (i : Nat) : Expr → Bool
    | .Name x _ => decide (N[i]? = some x) && (if isDef then locB sc x else locB sc x)
    | _ => false
  nmTs (N : List Str) (sc : Scope) (isDef : Bool) : List Nat → List Expr → Bool
    | [], [] => true
    | i :: is, x :: xs => nmT N sc isDef i x && nmTs N sc isDef is xs
    | _, _ => false

def lenEs : Es → Nat
  | .nil => 0
  | .cons _ r => lenEs r + 1

section
variable (S : Stat) (N : List Str)
mutual
def chkE : E → Scope → Expr → Bool
  | .var i, sc, x => match x with
    | .Name n _ => decide (N[i]? = some n) && visB sc n && nmB n
    | _ => false
  | .cst d, _, x => match x with
    | .Constant c _ _ => cstB d c
    | _ => false
  | .glo i, sc, x => match x with
    | .Name n _ => decide (S.gn[i]? = some n) && glB sc n && nmB n
    | _ => false
  | .tup es, sc, x => match x with
    | .Tuple xs _ _ => chkEs es sc xs && decide (lenEs es ≤ sz)
    | _ => false
  | .lst es, sc, x => match x with
    | .List xs _ => chkEs es sc xs && decide (lenEs es ≤ sz)
    | _ => false
  | .and a b, sc, x => match x with
    | .BoolOp .And (y :: z :: r) _ => chkE a sc y && noIte y && (if r.isEmpty then chkE b sc z && noIte z else chkAnd b sc (z :: r))
    | _ => false
  | .or a b, sc, x => match x with
    | .BoolOp .Or (y :: z :: r) _ => chkE a sc y && noIte y && (if r.isEmpty then chkE b sc z && noIte z else chkOr b sc (z :: r))
    | _ => false
  | .not a, sc, x => match x with
    | .UnaryOp .Not y _ => chkE a sc y && noIte y
    | _ => false
  | .neg a, sc, x => match x with
    | .UnaryOp .USub y _ => chkE a sc y
    | _ => false
  | .bin op a b, sc, x => match x with
    | .BinOp y o z _ => decide (o = bopOf op) && chkE a sc y && chkE b sc z
    | _ => false
  | .cmp op a b, sc, x => match x with
    | .Compare y [o] [z] _ => decide (o = copOf op) && chkE a sc y && chkE b sc z && noSet z
    | _ => false
  | .chn op op' a b c, sc, x => match x with
    | .Compare y [o, o'] [z, z'] _ => decide (o = copOf op) && decide (o' = copOf op') && chkE a sc y && chkE b sc z && chkE c sc z' && noSet z'
    | _ => false
  | .ite c a b, sc, x => match x with
    | .IfExp y z z' _ => chkE c sc y && noIte y && chkE a sc z && chkE b sc z'
    | _ => false
  | .idx a b, sc, x => match x with
    | .Subscript y z _ => chkE a sc y && chkE b sc z && noSlice z
    | _ => false
  | .slc a l h, sc, x => match x with
    | .Subscript y (.Slice (some z) (some z') none _) _ => chkE a sc y && chkE l sc z && chkE h sc z'
    | _ => false
  | .slcL a l, sc, x => match x with
    | .Subscript y (.Slice (some z) none none _) _ => chkE a sc y && chkE l sc z
    | _ => false
  | .slcH a h, sc, x => match x with
    | .Subscript y (.Slice none (some z) none _) _ => chkE a sc y && chkE h sc z
    | _ => false
  | .call c as ks, sc, x => match x, S.fs[c]? with
    | .Call (.Name n _) xs kws _, some F => decide (S.dn[F.f]? = some n) && glB sc n && nmB n && chkEs as sc xs && chkKs ks sc F.ks kws
    | _, _ => false
  | .blt b a, sc, x => match x with
    | .Call (.Name n _) [y] [] _ => decide (n = bltN b) && glB sc n && chkE a sc y && noStar y
    | _ => false
  | .isi a t, sc, x => match x with
    | .Call (.Name n _) [y, .Name z _] [] _ => decide (n = "isinstance") && glB sc n && chkE a sc y && noStar y && decide (z = Str.ofString (tyOf t)) && glB sc z
    | _ => false
  | .lc elt tg it own, sc, x => match x with
    | .ListComp y [⟨t, i, [], 0⟩] scope _ => blkC N sc scope own && chkI it sc i && noSet i && tgB N scope false tg t && (slots tg).all (fun j => (own.map (·.2)).contains j) && chkE elt (relS scope sc) y
    | _ => false
  | .lcif elt tg it own c, sc, x => match x with
    | .ListComp y [⟨t, i, [z], 0⟩] scope _ => blkC N sc scope own && chkI it sc i && noSet i && tgB N scope false tg t && (slots tg).all (fun j => (own.map (·.2)).contains j) && chkE elt (relS scope sc) y &&
        chkE c (relS scope sc) z && noIte z
    | _ => false
def chkAnd : E → Scope → List Expr → Bool
  | .and a b, sc, xs => match xs with
    | y :: z :: r => chkE a sc y && noIte y && (if r.isEmpty then chkE b sc z && noIte z else chkAnd b sc (z :: r))
    | _ => false
  | _, _, _ => false
def chkOr : E → Scope → List Expr → Bool
  | .or a b, sc, xs => match xs with
    | y :: z :: r => chkE a sc y && noIte y && (if r.isEmpty then chkE b sc z && noIte z else chkOr b sc (z :: r))
    | _ => false
  | _, _, _ => false
def chkEs : Es → Scope → List Expr → Bool
  | .nil, _, xs => xs.isEmpty
  | .cons a r, sc, xs => match xs with
    | x :: xs => noStar x && chkE a sc x && chkEs r sc xs
    | [] => false
def chkKs : Es → Scope → List Str → List Keyword → Bool
  | .nil, _, ns, ks => ns.isEmpty && ks.isEmpty
  | .cons a r, sc, ns, ks => match ns, ks with
    | n :: ns, ⟨some m, x, _⟩ :: ks => decide (n = m) && chkE a sc x && chkKs r sc ns ks
    | _, _ => false
def chkI : It → Scope → Expr → Bool
  | .exp e, sc, x => chkE e sc x
  | .rng e, sc, x => match x with
    | .Call (.Name n _) [y] [] _ => decide (n = "range") && glB sc n && chkE e sc y && noStar y
    | _ => false
  | .enm _, _, _ => false
  | .zip _ _, _, _ => false
end
end
example (S : Stat) (N : List Str) (sc : Scope) (p : Pos) : chkE S N (.cst .none) sc (.Constant .none 0 p) = true := by rfl
end Rf

namespace Rf
open PySem PySem.Spec PyProof.Rows L2
variable [Kys]

structure Gb where
  P : Program
  w : World
  K : PySem.W.Frag
  mg : Str → Option Value
  base : Heap
structure CxOk (g : Gb) (k : Nat) (X : Cx) : Prop where
  prog : X.prog = g.P
  w : X.w = g.w
  K : X.K = g.K
  mg : X.mg = g.mg
  base : X.base = g.base
  calm : X.calm = true
  nd : X.N.Nodup
  room : Room k X.A
  grd : X.A.guards = some []
def bltNames : List Str := ["len", "tuple", "list", "int", "str", "repr", "all", "any", "isinstance", "range", "enumerate", "zip", "bool", "sorted", "set", "sum", "dict"]
/-- the def at f, called as F says -/
def CallF (X : Cx) (f : Addr) (F : Form) (m : List D → T D) : Prop :=
  ∀ (pins : List (Addr × Obj)) (s : Shared) (σ : L2.St) (H : Hp) (vs zs : List V) (us ws : List Value) (Q : VK), L2.Inv X pins σ H s → Vals vs us → Vals zs ws →
    (∃ A O dvs dzs ds, Lay A O H ∧ RDs A O X.K H vs dvs ∧ RDs A O X.K H zs dzs ∧ dvs.length = F.np ∧ dzs.length = F.ks.length ∧ pickAll dvs dzs F.ps = some ds ∧ (m ds).wp (Beh A O X.K H Q)) →
    wpAny (model X.prog X.w) X.A (call (.ref f) us (F.ks.zip ws)) (EP X pins σ Q) X.xe s
structure GOk (S : Stat) (g : Gb) (k : Nat) (cl : Nat → List D → T D) : Prop where
  blt : ∀ x ∈ bltNames, g.mg x = none
  glo : ∀ (i : Nat) (x : Str) (d : D), S.gn[i]? = some x → S.gs[i]? = some d → ∃ v u, g.mg x = some u ∧ RelV v u ∧ ∀ A O H, RD A O g.K H v d
  call : ∀ (c : Nat) (F : Form) (x : Str), S.fs[c]? = some F → S.dn[F.f]? = some x → ∃ f, g.mg x = some (.ref f) ∧ PySem.W.keepIn g.K (.ref f) = true ∧ ∀ X, CxOk g k X → CallF X f F (cl F.f)

theorem CxOk.units {g : Gb} {k : Nat} {X : Cx} (c : CxOk g k X) : X.A.units + 64 < cLine := c.room.units
theorem CxOk.blk {g : Gb} {k : Nat} {X : Cx} (c : CxOk g k X) (s : Shared) (H : Hp) (scope : Scope) (cenv : PySem.Env) (fp : List Addr) : CxOk g k (X.blk s H scope cenv fp) :=
  ⟨c.prog, c.w, c.K, c.mg, c.base, c.calm, c.nd, c.room, c.grd⟩

section
variable {K : PySem.W.Frag} {σ : L2.St} {H : Hp} {Q : VK} {ma mb mc : M}
theorem rd_bool {A : Amb} {O : Addr → Prop} {v : V} {b : Bool} (r : RD A O K H v (.bool b)) : v = .bl b := by cases r; rfl
theorem rd_int {A : Amb} {O : Addr → Prop} {v : V} {b : Int} (r : RD A O K H v (.int b)) : v = .int b := by cases r; rfl
theorem tDb_tD {q : Bool → Hp → Prop} (h : tDb K ma σ H q) : tD K ma σ H fun x H1 => ∃ c, x = .bl c ∧ q c H1 := by
  obtain ⟨A, O, ρ, r, w⟩ := h
  refine ⟨A, O, ρ, r, T.wp_mono (fun d z v H' rd sm si => ?_) w⟩
  obtain ⟨b, rfl, z⟩ := z
  exact ⟨b, rd_bool rd, z H' sm si⟩
theorem tD_op {f : D → D → T D} (h : tD K (fun ρ => (ma ρ).bind fun x => (mb ρ).bind fun y => f x y) σ H Q) : tOp (r2D K f) (tD K ma) (tD K mb) σ H Q := by
  obtain ⟨A, O, ρ, r, w⟩ := h
  refine tD_bind r w fun d v H1 rd sm r1 w1 => ?_
  refine tD_bind r1 w1 fun d2 v2 H2 rd2 sm2 r2 w2 => ?_
  exact ⟨A, O, d, d2, r2.lay, rd.sm sm2 r1.si, rd2, w2⟩
/-- a test ahead of the rest -/
theorem tD_if {f : Bool → T D → T D} {g : Bool → Env → T D} (h : tD K (fun ρ => (ma ρ).bind fun x => (isB x).bind fun c => g c ρ) σ H Q) : tDb K ma σ H fun c H1 => tD K (g c) σ H1 Q := by
  obtain ⟨A, O, ρ, r, w⟩ := h
  refine ⟨A, O, ρ, r, T.wp_mono (fun d z => ?_) (T.wp_bind.mp w)⟩
  cases d with
  | bool b =>
    refine ⟨b, rfl, fun H' sm si => ⟨A, O, ρ, r.sm sm si, T.wp_mono (fun d' z' v' H2 rd' sm' si' => z' v' H2 rd' (sm.trans sm') si') z⟩⟩
  | _ => exact z.elim
theorem tD_ret {d : D} {v : V} (h : tD K (fun _ => .ret d) σ H Q) (hv : ∀ A O, RD A O K H v d) : Q v H := by
  obtain ⟨A, O, ρ, r, w⟩ := h
  exact w v H (hv A O) Sm.refl r.si
theorem tD_ifv {g : Bool → Env → T D} (h : tD K (fun ρ => (ma ρ).bind fun x => (isB x).bind fun c => g c ρ) σ H Q) : tD K ma σ H fun x H1 => ∃ c, x = .bl c ∧ tD K (g c) σ H1 Q :=
  tDb_tD (tD_if (f := fun _ t => t) h)
/-- tests over tests -/
theorem tDb_if {q : Bool → Hp → Prop} {g : Bool → Env → T D} (h : tDb K (fun ρ => (ma ρ).bind fun x => (isB x).bind fun c => g c ρ) σ H q) : tDb K ma σ H fun c H1 => tDb K (g c) σ H1 q := by
  obtain ⟨A, O, ρ, r, w⟩ := h
  refine ⟨A, O, ρ, r, T.wp_mono (fun d z => ?_) (T.wp_bind.mp w)⟩
  cases d with
  | bool b =>
    refine ⟨b, rfl, fun H' sm si => ⟨A, O, ρ, r.sm sm si, T.wp_mono (fun d' z' => ?_) z⟩⟩
    obtain ⟨c, rfl, z'⟩ := z'
    exact ⟨c, rfl, fun H2 sm' si' => z' H2 (sm.trans sm') si'⟩
  | _ => exact z.elim
theorem tDb_ret {q : Bool → Hp → Prop} {b : Bool} (h : tDb K (fun _ => ofB b) σ H q) : q b H := by
  obtain ⟨A, O, ρ, r, w⟩ := h
  obtain ⟨c, e, z⟩ := w
  cases e
  exact z H Sm.refl r.si
end

theorem evs_len (gs : List D) (fs : List Form) (cl : Nat → List D → T D) (ρ : Env) : ∀ (es : Es) {P : List D → Prop}, (evs gs fs cl es ρ).wp P → (evs gs fs cl es ρ).wp fun ds => ds.length = lenEs es ∧ P ds
  | .nil, _, h => ⟨rfl, h⟩
  | .cons a r, P, h => by
    have h := T.wp_bind.mp h
    refine T.wp_bind.mpr (T.wp_mono (fun x hx => ?_) h)
    have hx := T.wp_bind.mp hx
    refine T.wp_bind.mpr (T.wp_mono (fun xs hxs => ?_) (evs_len gs fs cl ρ r hx))
    exact ⟨congrArg (· + 1) hxs.1, hxs.2⟩

/-- the two ways in which an expression stands -/
structure Snd (X : Cx) (x : Expr) (m : M) : Prop where
  pe : PE X x (tD X.K m)
  pt : noIte x = true → PT X x (tDb X.K m)
theorem Snd.val {X : Cx} {x : Expr} {m : M} (h : PE X x (tD X.K m)) (he : ∀ whole, isTrue x X.env whole = (do let v ← whole; standAt x.pos; holding [v] (truthy v))) : Snd X x m :=
  ⟨h, fun _ => (pt_val h he).imp fun _ _ _ q => tDb_tD q⟩

section
variable {g : Gb} {k : Nat} {X : Cx}
theorem CxOk.free {S : Stat} {cl : Nat → List D → T D} (c : CxOk g k X) (G : GOk S g k cl) {x : Str} (h : x ∈ bltNames) : X.mg x = none := by rw [c.mg]; exact G.blt x h
theorem mem_blt : ∀ b : Blt, bltN b ∈ bltNames := by intro b; cases b <;> decide +kernel

theorem tDs_one {K : PySem.W.Frag} {m : M} {σ : L2.St} {H : Hp} {Q : VK} {f : D → T D} (h : tD K (fun ρ => (m ρ).bind f) σ H Q) : tCB (r1D K f) (tCons (tD K m) tNil) σ H Q := by
  obtain ⟨A, O, ρ, r, w⟩ := h
  exact tD_bind r w fun d v H1 rd sm r1 w1 => ⟨A, O, v, d, r1.lay, rfl, rd, w1⟩
/-- a built-in of one argument -/
theorem pe_blt {S : Stat} {cl : Nat → List D → T D} (c : CxOk g k X) (G : GOk S g k cl) (b : Blt) {y : Expr} {m : M} {p pos : Pos} (hg : Gl X (bltN b)) (hy : PE X y (tD X.K m)) (hs : noStar y = true) :
    PE X (.Call (.Name (bltN b) p) [y] [] pos) (tD X.K fun ρ => (m ρ).bind (bltD b)) := by
  have hm := c.free G (mem_blt b)
  have s1 := star_of hs [] X.env
  have pa : PA X [y] (tCons (tD X.K m) tNil) := pa_cons hy pa_nil s1
  cases b with
  | len => exact (pe_callB cr_len hg hm PySem.boot_len pa (by decide) (by decide) s1).imp fun _ _ _ q => tDs_one q
  | tuple => exact (pe_callTy cr_tuple hg hm (by decide +kernel) pa (by decide) (by decide) s1).imp fun _ _ _ q => tDs_one q
  | list => exact (pe_callTy cr_list hg hm (by decide +kernel) pa (by decide) (by decide) s1).imp fun _ _ _ q => tDs_one q
  | int => exact (pe_callTy cr_int hg hm (by decide +kernel) pa (by decide) (by decide) s1).imp fun _ _ _ q => tDs_one q
  | str => exact (pe_callTy cr_str hg hm (by decide +kernel) pa (by decide) (by decide) s1).imp fun _ _ _ q => tDs_one q
  | repr => exact (pe_callB (cr_repr c.grd c.units) hg hm (by decide +kernel) pa (by decide) (by decide) s1).imp fun _ _ _ q => tDs_one q
  | all => exact (pe_callB (cr_allD c.calm) hg hm (by decide +kernel) pa (by decide) (by decide) s1).imp fun _ _ _ q => tDs_one q
  | any => exact (pe_callB (cr_anyD c.calm) hg hm (by decide +kernel) pa (by decide) (by decide) s1).imp fun _ _ _ q => tDs_one q
def tyIn : Ty → Str
  | .int => "int" | .bool => "bool" | .str => "str" | .tuple => "tuple" | .list => "list"
theorem pe_isi {S : Stat} {cl : Nat → List D → T D} (c : CxOk g k X) (G : GOk S g k cl) (t : Ty) {y : Expr} {m : M} {p p2 pos : Pos} (hg : Gl X "isinstance") (hy : PE X y (tD X.K m)) (hs : noStar y = true) (hz : Gl X (Str.ofString (tyOf t))) :
    PE X (.Call (.Name "isinstance" p) [y, .Name (Str.ofString (tyOf t)) p2] [] pos) (tD X.K fun ρ => (m ρ).bind fun x => if x.plain then ofB (isiD x t) else .stuck) := by
  have hm := c.free G (x := "isinstance") (by decide +kernel)
  have s1 := star_of hs [.Name (Str.ofString (tyOf t)) p2] X.env
  have pt : PE X (.Name (Str.ofString (tyOf t)) p2) (tC (.ty (tyOf t))) := by
    cases t with
    | int => exact pe_bltn hz (c.free G (by decide +kernel)) (u := .type "int") (by decide +kernel) rfl (by decide) (by decide)
    | bool => exact pe_bltn hz (c.free G (by decide +kernel)) (u := .type "bool") (by decide +kernel) rfl (by decide) (by decide)
    | str => exact pe_bltn hz (c.free G (by decide +kernel)) (u := .type "str") (by decide +kernel) rfl (by decide) (by decide)
    | tuple => exact pe_bltn hz (c.free G (by decide +kernel)) (u := .type "tuple") (by decide +kernel) rfl (by decide) (by decide)
    | list => exact pe_bltn hz (c.free G (by decide +kernel)) (u := .type "list") (by decide +kernel) rfl (by decide) (by decide)
  refine (pe_callB (cr_isi t) hg hm (by decide +kernel) (pa_cons hy (pa_cons pt pa_nil) s1) (by decide) (by decide) s1).imp fun σ H Q q => ?_
  obtain ⟨A, O, ρ, r, w⟩ := q
  refine tD_bind r w fun d v H1 rd sm r1 w1 => ?_
  obtain ⟨hp, w1⟩ := wp_ite w1
  exact ⟨A, O, v, d, r1.lay, rfl, rd, hp, w1⟩
end
end Rf

namespace Rf
open PySem PySem.Spec PyProof.Rows L2
variable [Kys]

theorem b2 {a b : Bool} (h : (a && b) = true) : a = true ∧ b = true := Bool.and_eq_true_iff.mp h

/-- a, b, c as a block of the layer: each the value and the test -/
structure SndB (X : Cx) (op : BoolOp) (xs : List Expr) (m : M) : Prop where
  pe : ∀ pos, PE X (.BoolOp op xs pos) (tD X.K m)
  pw : ∀ pos, PW X (.BoolOp op xs pos) (tDb X.K m)

section
variable {X : Cx} {x y : Expr} {r : List Expr} {ma mb : M}
theorem SndB.and1 (h : Snd X x ma) (hi : noIte x = true) : SndB X .And [x] ma := ⟨fun _ => pe_one h.pe, fun _ => pw_and1 (h.pt hi)⟩
theorem SndB.or1 (h : Snd X x ma) (hi : noIte x = true) : SndB X .Or [x] ma := ⟨fun _ => pe_one h.pe, fun _ => pw_or1 (h.pt hi)⟩
def andM (ma mb : M) : M := fun ρ => (ma ρ).bind fun x => (isB x).bind fun c => if c then mb ρ else ofB false
def orM (ma mb : M) : M := fun ρ => (ma ρ).bind fun x => (isB x).bind fun c => if c then ofB true else mb ρ
theorem SndB.and (h : Snd X x ma) (hi : noIte x = true) (hb : SndB X .And (y :: r) mb) : SndB X .And (x :: y :: r) (andM ma mb) := by
  refine ⟨fun pos => (pe_and h.pe (hb.pe pos)).imp fun σ H Q q => ?_, fun pos => (pw_and (h.pt hi) (hb.pw pos)).imp fun σ H Q q => ?_⟩
  · obtain ⟨A, O, ρ, r, w⟩ := tD_ifv (g := fun c ρ => if c then mb ρ else ofB false) q
    refine ⟨A, O, ρ, r, T.wp_mono (fun d z v H' rd sm si => ?_) w⟩
    obtain ⟨c, e, z⟩ := z v H' rd sm si
    refine ⟨c, e, ?_⟩
    cases c with
    | true => exact z
    | false => exact tD_ret z fun A O => .bl false
  · obtain ⟨A, O, ρ, r, w⟩ := tDb_if (g := fun c ρ => if c then mb ρ else ofB false) q
    refine ⟨A, O, ρ, r, T.wp_mono (fun d z => ?_) w⟩
    obtain ⟨c, e, z⟩ := z
    refine ⟨c, e, fun H' sm si => ?_⟩
    have z := z H' sm si
    cases c with
    | true => exact z
    | false => exact tDb_ret z
theorem SndB.or (h : Snd X x ma) (hi : noIte x = true) (hb : SndB X .Or (y :: r) mb) : SndB X .Or (x :: y :: r) (orM ma mb) := by
  refine ⟨fun pos => (pe_or h.pe (hb.pe pos)).imp fun σ H Q q => ?_, fun pos => (pw_or (h.pt hi) (hb.pw pos)).imp fun σ H Q q => ?_⟩
  · obtain ⟨A, O, ρ, r, w⟩ := tD_ifv (g := fun c ρ => if c then ofB true else mb ρ) q
    refine ⟨A, O, ρ, r, T.wp_mono (fun d z v H' rd sm si => ?_) w⟩
    obtain ⟨c, e, z⟩ := z v H' rd sm si
    refine ⟨c, e, ?_⟩
    cases c with
    | false => exact z
    | true => exact tD_ret z fun A O => .bl true
  · obtain ⟨A, O, ρ, r, w⟩ := tDb_if (g := fun c ρ => if c then ofB true else mb ρ) q
    refine ⟨A, O, ρ, r, T.wp_mono (fun d z => ?_) w⟩
    obtain ⟨c, e, z⟩ := z
    refine ⟨c, e, fun H' sm si => ?_⟩
    have z := z H' sm si
    cases c with
    | false => exact z
    | true => exact tDb_ret z
theorem SndB.snd {op : BoolOp} {m : M} {pos : Pos} (h : SndB X op r m) : Snd X (.BoolOp op r pos) m := ⟨h.pe pos, fun _ => (h.pw pos).pt⟩
theorem snd_not {pos : Pos} (h : Snd X x ma) (hi : noIte x = true) : Snd X (.UnaryOp .Not x pos) fun ρ => (ma ρ).bind fun x => (isB x).bind fun c => ofB (!c) := by
  refine ⟨(pe_not h.pe).imp fun σ H Q q => ?_, fun _ => (pt_not (h.pt hi)).imp fun σ H Q q => ?_⟩
  · obtain ⟨A, O, ρ, r, w⟩ := tD_ifv (g := fun c _ => ofB (!c)) q
    refine ⟨A, O, ρ, r, T.wp_mono (fun d z v H' rd sm si => ?_) w⟩
    obtain ⟨c, e, z⟩ := z v H' rd sm si
    exact ⟨c, e, tD_ret z fun A O => .bl _⟩
  · obtain ⟨A, O, ρ, r, w⟩ := tDb_if (g := fun c _ => ofB (!c)) q
    refine ⟨A, O, ρ, r, T.wp_mono (fun d z => ?_) w⟩
    obtain ⟨c, e, z⟩ := z
    exact ⟨c, e, fun H' sm si => tDb_ret (z H' sm si)⟩
theorem snd_cmp {op : CmpOp} {f : D → D → T D} {pos : Pos} (ho : OpR X (compareOp op) (r2D X.K f)) (ha : Snd X x ma) (hb : Snd X y mb) (hm : behindInMarks op y = false) :
    Snd X (.Compare x [op] [y] pos) fun ρ => (ma ρ).bind fun x => (mb ρ).bind fun y => f x y :=
  ⟨(pe_cmpR ho ha.pe hb.pe hm).imp fun _ _ _ q => tD_op q, fun _ => (pt_cmpR ho ha.pe hb.pe hm).imp fun _ _ _ q => tD_op (tDb_tD q)⟩
theorem tD_chain {K : PySem.W.Frag} {f f' : D → D → T D} {mc : M} {σ : L2.St} {H : Hp} {Q : VK} (h : tD K (fun ρ => (ma ρ).bind fun x => (mb ρ).bind fun y => (f x y).bind fun k => (isB k).bind fun k =>
      if k then (mc ρ).bind fun z => f' y z else ofB false) σ H Q) : tChain (r2D K f) (r2D K f') (tD K ma) (tD K mb) (tD K mc) σ H Q := by
  obtain ⟨A, O, ρ, r, w⟩ := h
  refine tD_bind r w fun d v H1 rd sm r1 w1 => ?_
  refine tD_bind r1 w1 fun d2 v2 H2 rd2 sm2 r2 w2 => ?_
  refine ⟨A, O, d, d2, r2.lay, rd.sm sm2 r1.si, rd2, T.wp_mono (fun d3 z v3 H3 rd3 sm3 si3 => ?_) (T.wp_bind.mp w2)⟩
  have r3 := r2.sm sm3 si3
  cases rd3 with
  | bl b =>
    refine ⟨b, rfl, ?_⟩
    cases b with
    | false =>
      rw [if_neg Bool.false_ne_true]
      have z : ∀ v H', RD A O K H' v (.bool false) → _ := z
      exact z _ _ (.bl false) sm3 si3
    | true =>
      rw [if_pos rfl]
      have z : ((mc ρ).bind fun z => f' d2 z).wp fun d => ∀ (v : V) (H' : Hp), RD A O K H' v d → Sm A H2 H' → A.SI H' → Q v H' := z
      have z := T.wp_bind.mp z
      refine ⟨A, O, ρ, r3, T.wp_mono (fun d4 w4 v4 H4 rd4 sm4 si4 => ?_) z⟩
      exact ⟨A, O, d2, d4, (r3.sm sm4 si4).lay, (rd2.sm sm3 r2.si).sm sm4 si3, rd4, T.wp_mono (fun d5 w5 v5 H5 rd5 sm5 si5 => w5 v5 H5 rd5 (sm3.trans (sm4.trans sm5)) si5) w4⟩
  | _ => exact z.elim
theorem lastMarks2 {op op' : CmpOp} {b c : Expr} (h : behindInMarks op' c = false) : lastMarks [op, op'] [b, c] = false := by
  unfold lastMarks
  exact h
theorem snd_chn {op op' : CmpOp} {f f' : D → D → T D} {z : Expr} {mc : M} {pos : Pos} (ho : OpR X (compareOp op) (r2D X.K f)) (ho' : OpR X (compareOp op') (r2D X.K f')) (ha : Snd X x ma) (hb : Snd X y mb) (hc : Snd X z mc) (hm : behindInMarks op' z = false) :
    Snd X (.Compare x [op, op'] [y, z] pos) fun ρ => (ma ρ).bind fun x => (mb ρ).bind fun y => (f x y).bind fun k => (isB k).bind fun k => if k then (mc ρ).bind fun z => f' y z else ofB false :=
  ⟨(pe_chain ho ho' ha.pe hb.pe hc.pe (lastMarks2 hm)).imp fun _ _ _ q => tD_chain q, fun _ => (pt_chain ho ho' ha.pe hb.pe hc.pe (lastMarks2 hm)).imp fun _ _ _ q => tD_chain (tDb_tD q)⟩
theorem pe_iteD {c : Expr} {mc : M} {pos : Pos} (hc : Snd X c mc) (hi : noIte c = true) (ha : Snd X x ma) (hb : Snd X y mb) : PE X (.IfExp c x y pos) (tD X.K fun ρ => (mc ρ).bind fun x => (isB x).bind fun k => if k then ma ρ else mb ρ) := by
  refine (pe_ifExp (hc.pt hi) ha.pe hb.pe).imp fun σ H Q q => ?_
  obtain ⟨A, O, ρ, r, w⟩ := tD_if (f := fun _ t => t) (g := fun k ρ => if k then ma ρ else mb ρ) q
  refine ⟨A, O, ρ, r, T.wp_mono (fun d z => ?_) w⟩
  obtain ⟨c, e, z⟩ := z
  refine ⟨c, e, fun H' sm si => ?_⟩
  have z := z H' sm si
  cases c with
  | true => exact z
  | false => exact z
theorem pe_negD {pos : Pos} (ha : PE X x (tD X.K ma)) : PE X (.UnaryOp .USub x pos) (tD X.K fun ρ => (ma ρ).bind fun x => (isI x).bind fun i => .ret (.int (-i))) := by
  refine (pe_un un_neg ha).imp fun σ H Q q => ?_
  obtain ⟨A, O, ρ, r, w⟩ := q
  refine tD_bind r w fun d v H1 rd sm r1 w1 => ?_
  cases rd with
  | int i => exact ⟨i, rfl, w1 _ _ (.int _) Sm.refl r1.si⟩
  | _ => exact w1.elim
theorem pe_slcD {lo hi : Expr} {ml mh : M} {p2 pos : Pos} (ha : PE X x (tD X.K ma)) (hl : PE X lo (tD X.K ml)) (hh : PE X hi (tD X.K mh)) : PE X (.Subscript x (.Slice (some lo) (some hi) none p2) pos)
    (tD X.K fun ρ => (ma ρ).bind fun x => (ml ρ).bind fun y => (isI y).bind fun i => (mh ρ).bind fun z => (isI z).bind fun j => slcD x (some i) (some j)) := by
  refine (pe_slice sl_D ha (po_some hl) (po_some hh)).imp fun σ H Q q => ?_
  obtain ⟨A, O, ρ, r, w⟩ := q
  refine tD_bind r w fun d v H1 rd sm r1 w1 => ?_
  refine tD_bind r1 w1 fun d2 v2 H2 rd2 sm2 r2 w2 => ?_
  cases rd2 with
  | int i =>
    refine ⟨i, rfl, ?_⟩
    refine tD_bind r2 w2 fun d3 v3 H3 rd3 sm3 r3 w3 => ?_
    cases rd3 with
    | int j => exact ⟨j, rfl, A, O, d, r3.lay, (rd.sm sm2 r1.si).sm sm3 r2.si, w3⟩
    | _ => exact w3.elim
  | _ => exact w2.elim
theorem pe_slcLD {lo : Expr} {ml : M} {p2 pos : Pos} (ha : PE X x (tD X.K ma)) (hl : PE X lo (tD X.K ml)) : PE X (.Subscript x (.Slice (some lo) none none p2) pos)
    (tD X.K fun ρ => (ma ρ).bind fun x => (ml ρ).bind fun y => (isI y).bind fun i => slcD x (some i) none) := by
  refine (pe_slice sl_D ha (po_some hl) po_none).imp fun σ H Q q => ?_
  obtain ⟨A, O, ρ, r, w⟩ := q
  refine tD_bind r w fun d v H1 rd sm r1 w1 => ?_
  refine tD_bind r1 w1 fun d2 v2 H2 rd2 sm2 r2 w2 => ?_
  cases rd2 with
  | int i => exact ⟨i, rfl, A, O, d, r2.lay, rd.sm sm2 r1.si, w2⟩
  | _ => exact w2.elim
theorem pe_slcHD {hi : Expr} {mh : M} {p2 pos : Pos} (ha : PE X x (tD X.K ma)) (hh : PE X hi (tD X.K mh)) : PE X (.Subscript x (.Slice none (some hi) none p2) pos)
    (tD X.K fun ρ => (ma ρ).bind fun x => (mh ρ).bind fun y => (isI y).bind fun i => slcD x none (some i)) := by
  refine (pe_slice sl_D ha po_none (po_some hh)).imp fun σ H Q q => ?_
  obtain ⟨A, O, ρ, r, w⟩ := q
  refine tD_bind r w fun d v H1 rd sm r1 w1 => ?_
  refine tD_bind r1 w1 fun d2 v2 H2 rd2 sm2 r2 w2 => ?_
  cases rd2 with
  | int i => exact ⟨i, rfl, A, O, d, r2.lay, rd.sm sm2 r1.si, w2⟩
  | _ => exact w2.elim
end

section
variable {X : Cx}
theorem pa_D {x : Expr} {xs : List Expr} {m : M} {ms : Env → T (List D)} (hs : noStar x = true) (h : PE X x (tD X.K m)) (hr : PA X xs (tDs X.K ms)) :
    PA X (x :: xs) (tDs X.K fun ρ => (m ρ).bind fun d => (ms ρ).bind fun ds => .ret (d :: ds)) := by
  refine (pa_cons h hr (star_of hs xs X.env)).imp fun σ H Q q => ?_
  obtain ⟨A, O, ρ, r, w⟩ := q
  refine ⟨A, O, ρ, r, T.wp_mono (fun d z v H1 rd sm si => ?_) (T.wp_bind.mp w)⟩
  refine ⟨A, O, ρ, r.sm sm si, T.wp_mono (fun ds z2 vs H2 rds sm2 si2 => ?_) (T.wp_bind.mp z)⟩
  exact z2 _ _ (.cons (rd.sm sm2 si) rds) (sm.trans sm2) si2
theorem pk_D {x : Expr} {nm : Option Str} {kp : Pos} {ks : List Keyword} {m : M} {ms : Env → T (List D)} (h : PE X x (tD X.K m)) (hr : PK X ks (tDs X.K ms)) :
    PK X (⟨nm, x, kp⟩ :: ks) (tDs X.K fun ρ => (m ρ).bind fun d => (ms ρ).bind fun ds => .ret (d :: ds)) := by
  have h0 := pk_cons (nm := nm) (kpos := kp) h hr
  refine ⟨fun pos pins s σ H Q I q => h0.run pos pins s σ H Q I ?_⟩
  obtain ⟨A, O, ρ, r, w⟩ := q
  refine ⟨A, O, ρ, r, T.wp_mono (fun d z v H1 rd sm si => ?_) (T.wp_bind.mp w)⟩
  refine ⟨A, O, ρ, r.sm sm si, T.wp_mono (fun ds z2 vs H2 rds sm2 si2 => ?_) (T.wp_bind.mp z)⟩
  exact z2 _ _ (.cons (rd.sm sm2 si) rds) (sm.trans sm2) si2
theorem pa_nilD : PA X [] (tDs X.K fun _ => .ret []) := pa_nil.imp fun σ H Q q => by
  obtain ⟨A, O, ρ, r, w⟩ := q
  exact w _ _ .nil Sm.refl r.si
theorem pk_nilD : PK X [] (tDs X.K fun _ => .ret []) := ⟨fun pos pins s σ H Q I q => (pk_nil (X := X)).run pos pins s σ H Q I (by
  obtain ⟨A, O, ρ, r, w⟩ := q
  exact w _ _ .nil Sm.refl r.si)⟩
end

/-- the keywords' names -/
def kwOk : List Str → List Keyword → Bool
  | [], [] => true
  | n :: ns, ⟨some m, _, _⟩ :: ks => decide (n = m) && kwOk ns ks
  | _, _ => false
theorem kw_names {env : PySem.Env} {pos : Pos} : ∀ {ns : List Str} {ks : List Keyword}, kwOk ns ks = true →
    (backToKw pos (keywordEach ks env)).filterMap (·.1) = ns ∧ (backToKw pos (keywordEach ks env)).all (·.1.isSome) = true ∧ (backToKw pos (keywordEach ks env)).any (·.1.isNone) = false
  | [], [], _ => ⟨rfl, rfl, rfl⟩
  | [], _ :: _, h => nomatch h
  | _ :: _, [], h => nomatch h
  | n :: ns, ⟨none, _, _⟩ :: ks, h => nomatch h
  | n :: ns, ⟨some m, x, p⟩ :: ks, h => by
    obtain ⟨h1, h2⟩ := b2 h
    have e : n = m := of_decide_eq_true h1
    subst e
    obtain ⟨a, b, c⟩ := kw_names (env := env) (pos := pos) h2
    have q : backToKw pos (keywordEach (⟨some n, x, p⟩ :: ks) env) = (some n, do let v ← eval x env; standAt pos; pure v) :: backToKw pos (keywordEach ks env) := rfl
    refine ⟨?_, ?_, ?_⟩
    · rw [q, List.filterMap_cons]
      show n :: (backToKw pos (keywordEach ks env)).filterMap (·.1) = _
      rw [a]
    · rw [q, List.all_cons, b]; rfl
    · rw [q, List.any_cons, c]; rfl
def stOk : List Expr → Bool
  | [] => true
  | x :: xs => noStar x && stOk xs
theorem st_none {env : PySem.Env} {pos : Pos} : ∀ {xs : List Expr}, stOk xs = true → (backTo pos (starEach xs env)).any (·.1) = false
  | [], _ => rfl
  | x :: xs, h => by
    obtain ⟨h1, h2⟩ := b2 h
    rw [star_of h1 xs env]
    show (false || (backTo pos (starEach xs env)).any (·.1)) = false
    rw [st_none h2]; rfl

section
variable {g : Gb} {k : Nat} {X : Cx}
theorem pe_callD {S : Stat} {cl : Nat → List D → T D} (c : CxOk g k X) (G : GOk S g k cl) {ci : Nat} {F : Form} {n : Str} {xs : List Expr} {kws : List Keyword} {p pos : Pos} {ma mk : Env → T (List D)}
    (hF : S.fs[ci]? = some F) (hn : S.dn[F.f]? = some n) (hg : Gl X n) (hnm : nmB n = true) (ha : PA X xs (tDs X.K ma)) (hk : PK X kws (tDs X.K mk)) (hst : stOk xs = true) (hkw : kwOk F.ks kws = true) (hnil : xs = [] → ma = fun _ => .ret []) :
    PE X (.Call (.Name n p) xs kws pos) (tD X.K fun ρ => (ma ρ).bind fun vs => (mk ρ).bind fun zs => match S.fs[ci]? with
      | none => .stuck
      | some F => if vs.length = F.np ∧ zs.length = F.ks.length then (orStuck (pickAll vs zs F.ps)).bind fun ds => cl F.f ds else .stuck) := by
  obtain ⟨f, hm, kp, R⟩ := G.call ci F n hF hn
  obtain ⟨n1, n2, n3⟩ := nmB_ok hnm
  have hm' : X.mg n = some (.ref f) := by rw [c.mg]; exact hm
  have kp' : PySem.W.keepIn X.K (.ref f) = true := by rw [c.K]; exact kp
  obtain ⟨k1, k2, k3⟩ := kw_names (env := X.env) (pos := pos) hkw
  rw [hF]
  refine ⟨fun pins s σ H Q I q => wpAny_Call_Name_kw (ld_glob I hg hm' ?_ n1)⟩
  obtain ⟨A, O, ρ, r, w⟩ := q
  have kwr : ∀ (s1 : Shared) (H1 : Hp) (vs : List V) (us : List Value) (dvs : List D), L2.Inv X pins σ H1 s1 → Vals vs us → RDs A O X.K H1 vs dvs → Sm A H H1 → A.SI H1 →
      (((mk ρ).bind fun zs => if dvs.length = F.np ∧ zs.length = F.ks.length then (orStuck (pickAll dvs zs F.ps)).bind fun ds => cl F.f ds else .stuck).wp fun d => ∀ v H', RD A O X.K H' v d → Sm A H H' → A.SI H' → Q v H') →
      wpAny (model X.prog X.w) X.A (evalAll ((backToKw pos (keywordEach kws X.env)).map (·.2))) (fun ks s₂ => X.K.In s₂.heap ∧ wpAny (model X.prog X.w) X.A (call (.ref f) us (((backToKw pos (keywordEach kws X.env)).filterMap (·.1)).zip ks)) (EP X pins σ Q) X.xe s₂) X.xe s1 := by
    intro s1 H1 vs us dvs I1 rv rd1 sm1 si1 w1
    have key : tDs X.K mk σ H1 fun zs H2 => ∃ dzs, RDs A O X.K H2 zs dzs ∧ Sm A H1 H2 ∧ A.SI H2 ∧ ((if dvs.length = F.np ∧ dzs.length = F.ks.length then (orStuck (pickAll dvs dzs F.ps)).bind fun ds => cl F.f ds else .stuck).wp fun d => ∀ v H', RD A O X.K H' v d → Sm A H H' → A.SI H' → Q v H') :=
      ⟨A, O, ρ, r.sm sm1 si1, T.wp_mono (fun dzs z zs H2 rdz sm2 si2 => ⟨dzs, rdz, sm2, si2, z⟩) (T.wp_bind.mp w1)⟩
    refine thn (hk.run pos pins s1 σ H1 _ I1 key) fun ws s2 ⟨zs, H2, I2, rz, dzs, rdz, sm2, si2, z⟩ => ⟨I2.kIn, ?_⟩
    rw [k1]
    obtain ⟨⟨l1, l2⟩, z⟩ := wp_ite z
    obtain ⟨ds, ed, z⟩ := wp_orStuck (T.wp_bind.mp z)
    exact R X c pins s2 σ H2 vs zs us ws Q I2 rv rz ⟨A, O, dvs, dzs, ds, ((r.sm sm1 si1).sm sm2 si2).lay, rd1.sm sm2 si1, rdz, l1, l2, ed, T.wp_mono (fun d y v H' rd' sm' si' => y v H' rd' (sm1.trans (sm2.trans sm')) si') z⟩
  cases xs with
  | nil =>
    have em := hnil rfl
    subst em
    refine PySem.W.callWith_KW0 (h₀ := X.base) I.ok.mod.kin kp' k2 ?_ (by show ((backTo pos (starEach [] X.env)).any (·.1) || (backToKw pos (keywordEach kws X.env)).any (·.1.isNone)) = false; rw [k3]; rfl)
    exact kwr s H [] [] [] I .nil .nil Sm.refl r.si w
  | cons x xs =>
    obtain ⟨h1, h2⟩ := b2 hst
    have key : tDs X.K ma σ H fun vs H1 => ∃ dvs, RDs A O X.K H1 vs dvs ∧ Sm A H H1 ∧ A.SI H1 ∧ ((((mk ρ).bind fun zs => if dvs.length = F.np ∧ zs.length = F.ks.length then (orStuck (pickAll dvs zs F.ps)).bind fun ds => cl F.f ds else .stuck)).wp fun d => ∀ v H', RD A O X.K H' v d → Sm A H H' → A.SI H' → Q v H') :=
      ⟨A, O, ρ, r, T.wp_mono (fun dvs z vs H1 rdv sm1 si1 => ⟨dvs, rdv, sm1, si1, z⟩) (T.wp_bind.mp w)⟩
    refine PySem.W.callWith_KW (h₀ := X.base) I.ok.mod.kin kp' k2 (thn (ha.run pos pins s σ H _ I key) fun us s1 ⟨vs, H1, I1, rv, dvs, rdv, sm1, si1, z⟩ => kwr s1 H1 vs us dvs I1 rv rdv sm1 si1 z) ?_ (star_of h1 xs X.env)
    rw [st_none (xs := x :: xs) hst, k3]; rfl
end
end Rf

namespace Rf
open PySem PySem.Spec PyProof.Rows L2
variable [Kys]

section
variable {X : Cx} {sc : Scope}
/-- the names that sc has for its own may be stored here -/
def Own (X : Cx) (sc : Scope) : Prop := ∀ n, locB sc n = true → Loc X.env.scope n ∧ (X.fn n = true ∨ X.env.scope.names.lookup n = some .local)
theorem nmT_ok {i : Nat} {x : Expr} {b : Bool} (nd : X.N.Nodup) (hf : Own X sc) (h : tgB.nmT X.N sc b i x = true) : PG X x (gName i) := by
  cases x with
  | Name n p =>
    obtain ⟨h1, h2⟩ := b2 (show (decide (X.N[i]? = some n) && (if b = true then locB sc n else locB sc n)) = true from h)
    have h2 : locB sc n = true := by split at h2 <;> exact h2
    exact pg_name nd (of_decide_eq_true h1) (hf n h2).1 (hf n h2).2
  | _ => exact nomatch h
theorem nmTs_ok {b : Bool} (nd : X.N.Nodup) (hf : Own X sc) : ∀ {is : List Nat} {xs : List Expr}, tgB.nmTs X.N sc b is xs = true →
    PGs X xs (gNames is) ∧ (assignEach xs X.env).length = is.length ∧ (assignEach xs X.env).findIdx? (·.1) = none
  | [], [], _ => ⟨pgs_nil, rfl, rfl⟩
  | [], _ :: _, h => nomatch h
  | _ :: _, [], h => nomatch h
  | i :: is, x :: xs, h => by
    obtain ⟨h1, h2⟩ := b2 (show (tgB.nmT X.N sc b i x && tgB.nmTs X.N sc b is xs) = true from h)
    obtain ⟨p, q, r⟩ := nmTs_ok (b := b) nd hf h2
    have pg := nmT_ok nd hf h1
    cases x with
    | Name n pp =>
      refine ⟨pgs_cons pg p rfl, congrArg (· + 1) q, ?_⟩
      show List.findIdx? (·.1) ((false, assign (.Name n pp) X.env) :: assignEach xs X.env) = none
      rw [List.findIdx?_cons]
      simp only [Bool.false_eq_true, if_false]
      rw [r]; rfl
    | _ => exact nomatch h1
theorem tg_ok {tg : Tg} {x : Expr} {b : Bool} (hc : X.calm = true) (nd : X.N.Nodup) (hf : Own X sc) (h : tgB X.N sc b tg x = true) : PG X x (gOf X.K tg) := by
  cases tg with
  | nm i => exact nmT_ok nd hf (by simpa [tgB] using h)
  | tp is =>
    cases x with
    | Tuple xs kk pos =>
      obtain ⟨p, q, r⟩ := nmTs_ok nd hf (show tgB.nmTs X.N sc b is xs = true from h)
      exact pg_tup hc p q r
    | _ => exact nomatch h
/-- a block's own names are local or cells of the block -/
theorem blk_own {s : Shared} {H : Hp} {scope : Scope} {cl : List (Str × Addr)} {C : Addr} {fp : List Addr} : Own (X.blk s H scope (compEnvC scope cl C X.env) fp) scope := fun n h => by
  rcases locB_ok h with q | q
  · have e : (relS scope X.env.scope).names.lookup n = some .local := lookup_relS_keep (by decide) q
    exact ⟨.inl e, .inr e⟩
  · have e : (relS scope X.env.scope).names.lookup n = some .cell := lookup_relS_keep (by decide) q
    refine ⟨.inr e, .inl ?_⟩
    show (scope.names.lookup n == some .cell) = true
    rw [q]; rfl
end

theorem b3 {a b c : Bool} (h : (a && b && c) = true) : a = true ∧ b = true ∧ c = true := let ⟨h1, h2⟩ := b2 h; let ⟨h0, h1⟩ := b2 h1; ⟨h0, h1, h2⟩
theorem b4 {a b c d : Bool} (h : (a && b && c && d) = true) : a = true ∧ b = true ∧ c = true ∧ d = true := let ⟨h1, h2⟩ := b2 h; let ⟨x, y, z⟩ := b3 h1; ⟨x, y, z, h2⟩
theorem b6 {a b c d e f : Bool} (h : (a && b && c && d && e && f) = true) : a = true ∧ b = true ∧ c = true ∧ d = true ∧ e = true ∧ f = true := let ⟨h1, h2⟩ := b2 h; let ⟨h1, h3⟩ := b2 h1; let ⟨x, y, z, w⟩ := b4 h1; ⟨x, y, z, w, h3, h2⟩

theorem chk_stOk {S : Stat} {N : List Str} : ∀ {es : Es} {sc : Scope} {xs : List Expr}, chkEs S N es sc xs = true → stOk xs = true
  | .nil, _, [], _ => rfl
  | .nil, _, _ :: _, h => nomatch h
  | .cons _ _, _, [], h => nomatch h
  | .cons a r, sc, x :: xs, h => by
    obtain ⟨h1, h2⟩ := b2 (show (noStar x && chkE S N a sc x && chkEs S N r sc xs) = true from h)
    obtain ⟨h1, _⟩ := b2 h1
    show (noStar x && stOk xs) = true
    rw [h1, chk_stOk h2]; rfl
theorem chk_kwOk {S : Stat} {N : List Str} : ∀ {es : Es} {sc : Scope} {ns : List Str} {ks : List Keyword}, chkKs S N es sc ns ks = true → kwOk ns ks = true
  | .nil, _, [], [], _ => rfl
  | .nil, _, [], _ :: _, h => nomatch h
  | .nil, _, _ :: _, _, h => nomatch h
  | .cons _ _, _, [], _, h => nomatch h
  | .cons _ _, _, _ :: _, [], h => nomatch h
  | .cons _ _, _, _ :: _, ⟨none, _, _⟩ :: _, h => nomatch h
  | .cons a r, sc, n :: ns, ⟨some m, x, p⟩ :: ks, h => by
    obtain ⟨h1, h2⟩ := b2 (show (decide (n = m) && chkE S N a sc x && chkKs S N r sc ns ks) = true from h)
    obtain ⟨h1, _⟩ := b2 h1
    show (decide (n = m) && kwOk ns ks) = true
    rw [h1, chk_kwOk h2]; rfl
theorem cstB_pe {X : Cx} {d : D} {c : Const} {j : Nat} {p : Pos} (h : cstB d c = true) : PE X (.Constant c j p) (tD X.K fun _ => .ret d) := by
  cases c with
  | none =>
    cases d with
    | none => exact pe_non.imp fun σ H Q q => tD_ret q fun A O => .non
    | _ => exact nomatch h
  | bool b =>
    cases d with
    | bool b' =>
      obtain rfl : b' = b := by simpa [cstB] using h
      exact pe_bl.imp fun σ H Q q => tD_ret q fun A O => .bl _
    | _ => exact nomatch h
  | int i =>
    cases d with
    | int i' =>
      obtain rfl : i' = i := by simpa [cstB] using h
      exact pe_int.imp fun σ H Q q => tD_ret q fun A O => .int _
    | _ => exact nomatch h
  | str z =>
    cases d with
    | str z' =>
      obtain rfl : z' = z := by simpa [cstB] using h
      exact pe_str.imp fun σ H Q q => tD_ret q fun A O => .str _
    | _ => exact nomatch h
  | _ => cases d <;> exact nomatch h

section
variable {g : Gb} {k : Nat} {S : Stat} {cl : Nat → List D → T D}
theorem pe_tupD {X : Cx} {xs : List Expr} {kk : Nat} {pos : Pos} {ms : Env → T (List D)} (h : PA X xs (tDs X.K ms)) (hl : ∀ ρ P, (ms ρ).wp P → (ms ρ).wp fun ds => ds.length ≤ sz ∧ P ds) : PE X (.Tuple xs kk pos) (tD X.K fun ρ => (ms ρ).bind fun ds => .ret (.tuple ds)) := by
  refine (pe_tup h).imp fun σ H Q q => ?_
  obtain ⟨A, O, ρ, r, w⟩ := q
  refine ⟨A, O, ρ, r, T.wp_mono (fun ds z vs H1 rds sm si => ?_) (hl ρ _ (T.wp_bind.mp w))⟩
  have r1 := r.sm sm si
  exact ⟨by rw [rds.length]; exact Nat.le_trans z.1 szL, fun p hp => z.2 _ _ (.tup (SqT.of upd_same) (rds.sm (Sm.new hp) si)) (sm.trans (Sm.new hp)) (A.new si hp)⟩
theorem pe_lstD {X : Cx} {xs : List Expr} {pos : Pos} {ms : Env → T (List D)} (h : PA X xs (tDs X.K ms)) (hl : ∀ ρ P, (ms ρ).wp P → (ms ρ).wp fun ds => ds.length ≤ sz ∧ P ds) : PE X (.List xs pos) (tD X.K fun ρ => (ms ρ).bind fun ds => .ret (.list ds)) := by
  refine (pe_lst h).imp fun σ H Q q => ?_
  obtain ⟨A, O, ρ, r, w⟩ := q
  refine ⟨A, O, ρ, r, T.wp_mono (fun ds z vs H1 rds sm si => ?_) (hl ρ _ (T.wp_bind.mp w))⟩
  have r1 := r.sm sm si
  exact ⟨by rw [rds.length]; exact Nat.le_trans z.1 szL, fun p hp => z.2 _ _ (.lst upd_same (r1.fresh hp) (rds.sm (Sm.new hp) si)) (sm.trans (Sm.new hp)) (A.new si hp)⟩
theorem all_mem {is vs : List Nat} (h : (is.all fun j => vs.contains j) = true) : ∀ i ∈ is, i ∈ vs := fun i hi => by
  have q := List.all_eq_true.mp h i hi
  simpa using q

mutual
theorem sndE (G : GOk S g k cl) : ∀ (e : E) (X : Cx) (x : Expr), CxOk g k X → chkE S X.N e X.env.scope x = true → Snd X x (ev S.gs S.fs cl e)
  | .var i, X, x, c, h => by
    cases x with
    | Name n p =>
      obtain ⟨h1, h2⟩ := b2 (show (decide (X.N[i]? = some n) && visB X.env.scope n && nmB n) = true from h)
      obtain ⟨h0, h1⟩ := b2 h1
      obtain ⟨n1, n2, _⟩ := nmB_ok h2
      refine .val ((pe_var (of_decide_eq_true h0) (visB_ok h1) n1 n2).imp fun σ H Q q => ?_) fun _ => rfl
      obtain ⟨A, O, ρ, r, w⟩ := q
      have w : (match ρ[i]? with | some (.val d) => T.ret d | _ => .stuck).wp _ := w
      cases e : ρ[i]? with
      | none => rw [e] at w; exact w.elim
      | some sv =>
        rw [e] at w
        cases sv with
        | val d =>
          obtain ⟨v, e1, rd⟩ := r.val i d e
          exact ⟨v, e1, w v H rd Sm.refl r.si⟩
        | _ => exact w.elim
    | _ => exact nomatch h
  | .cst d, X, x, c, h => by
    cases x with
    | Constant cc j p => exact .val (cstB_pe h) fun _ => rfl
    | _ => exact nomatch h
  | .glo i, X, x, c, h => by
    cases x with
    | Name n p =>
      obtain ⟨h1, h2⟩ := b2 (show (decide (S.gn[i]? = some n) && glB X.env.scope n && nmB n) = true from h)
      obtain ⟨h0, h1⟩ := b2 h1
      obtain ⟨n1, n2, _⟩ := nmB_ok h2
      cases e : S.gs[i]? with
      | none =>
        refine .val ⟨fun pins s σ H Q I q => ?_⟩ fun _ => rfl
        obtain ⟨A, O, ρ, r, w⟩ := q
        have w : (orStuck S.gs[i]?).wp _ := w
        rw [e] at w
        exact w.elim
      | some d =>
        obtain ⟨v, u, hm, rv, hd⟩ := G.glo i n d (of_decide_eq_true h0) e
        refine .val ((pe_glob (glB_ok h1) (by rw [c.mg]; exact hm) rv n1).imp fun σ H Q q => ?_) fun _ => rfl
        obtain ⟨A, O, ρ, r, w⟩ := q
        have w : (orStuck S.gs[i]?).wp _ := w
        rw [e] at w
        exact w v H (by rw [c.K]; exact hd A O H) Sm.refl r.si
    | _ => exact nomatch h
  | .tup es, X, x, c, h => by
    cases x with
    | Tuple xs kk p =>
      obtain ⟨h1, h2⟩ := b2 (show (chkEs S X.N es X.env.scope xs && decide (lenEs es ≤ sz)) = true from h)
      exact .val (pe_tupD (sndEs G es X xs c h1) fun ρ P w => T.wp_mono (fun ds z => ⟨by rw [z.1]; exact of_decide_eq_true h2, z.2⟩) (evs_len _ _ _ ρ es w)) fun _ => rfl
    | _ => exact nomatch h
  | .lst es, X, x, c, h => by
    cases x with
    | List xs p =>
      obtain ⟨h1, h2⟩ := b2 (show (chkEs S X.N es X.env.scope xs && decide (lenEs es ≤ sz)) = true from h)
      exact .val (pe_lstD (sndEs G es X xs c h1) fun ρ P w => T.wp_mono (fun ds z => ⟨by rw [z.1]; exact of_decide_eq_true h2, z.2⟩) (evs_len _ _ _ ρ es w)) fun _ => rfl
    | _ => exact nomatch h
  | .and a b, X, x, c, h => by
    cases x with
    | BoolOp op xs p =>
      cases op with
      | Or => cases xs with
        | nil => exact nomatch h
        | cons _ r => cases r <;> exact nomatch h
      | And =>
        cases xs with
        | nil => exact nomatch h
        | cons y r =>
          cases r with
          | nil => exact nomatch h
          | cons z r =>
            obtain ⟨h1, h2⟩ := b2 (show (chkE S X.N a X.env.scope y && noIte y && (if r.isEmpty = true then chkE S X.N b X.env.scope z && noIte z else chkAnd S X.N b X.env.scope (z :: r))) = true from h)
            obtain ⟨h0, h1⟩ := b2 h1
            have sb : SndB X .And (z :: r) (ev S.gs S.fs cl b) := by
              cases r with
              | nil =>
                obtain ⟨q1, q2⟩ := b2 (show (chkE S X.N b X.env.scope z && noIte z) = true from h2)
                exact .and1 (sndE G b X z c q1) q2
              | cons z' r => exact sndAnd G b X _ c h2
            exact ((sndE G a X y c h0 |> fun q => SndB.and q h1 sb)).snd
    | _ => exact nomatch h
  | .or a b, X, x, c, h => by
    cases x with
    | BoolOp op xs p =>
      cases op with
      | And => cases xs with
        | nil => exact nomatch h
        | cons _ r => cases r <;> exact nomatch h
      | Or =>
        cases xs with
        | nil => exact nomatch h
        | cons y r =>
          cases r with
          | nil => exact nomatch h
          | cons z r =>
            obtain ⟨h1, h2⟩ := b2 (show (chkE S X.N a X.env.scope y && noIte y && (if r.isEmpty = true then chkE S X.N b X.env.scope z && noIte z else chkOr S X.N b X.env.scope (z :: r))) = true from h)
            obtain ⟨h0, h1⟩ := b2 h1
            have sb : SndB X .Or (z :: r) (ev S.gs S.fs cl b) := by
              cases r with
              | nil =>
                obtain ⟨q1, q2⟩ := b2 (show (chkE S X.N b X.env.scope z && noIte z) = true from h2)
                exact .or1 (sndE G b X z c q1) q2
              | cons z' r => exact sndOr G b X _ c h2
            exact ((sndE G a X y c h0 |> fun q => SndB.or q h1 sb)).snd
    | _ => exact nomatch h
  | .not a, X, x, c, h => by
    cases x with
    | UnaryOp op y p =>
      cases op with
      | Not =>
        obtain ⟨h1, h2⟩ := b2 (show (chkE S X.N a X.env.scope y && noIte y) = true from h)
        exact snd_not (sndE G a X y c h1) h2
      | _ => exact nomatch h
    | _ => exact nomatch h
  | .neg a, X, x, c, h => by
    cases x with
    | UnaryOp op y p =>
      cases op with
      | USub => exact .val (pe_negD (sndE G a X y c h).pe) fun _ => rfl
      | _ => exact nomatch h
    | _ => exact nomatch h
  | .bin op a b, X, x, c, h => by
    cases x with
    | BinOp y o z p =>
      obtain ⟨h0, h1, h2⟩ := b3 (show (decide (o = bopOf op) && chkE S X.N a X.env.scope y && chkE S X.N b X.env.scope z) = true from h)
      obtain rfl : o = bopOf op := of_decide_eq_true h0
      exact .val ((pe_op (op_binD op) (sndE G a X y c h1).pe (sndE G b X z c h2).pe).imp fun _ _ _ q => tD_op q) fun _ => rfl
    | _ => exact nomatch h
  | .cmp op a b, X, x, c, h => by
    cases x with
    | Compare y os zs p =>
      match os, zs, h with
      | [o], [z], h =>
        obtain ⟨h0, h1, h2, h3⟩ := b4 (show (decide (o = copOf op) && chkE S X.N a X.env.scope y && chkE S X.N b X.env.scope z && noSet z) = true from h)
        obtain rfl : o = copOf op := of_decide_eq_true h0
        exact snd_cmp (op_cmpD op c.units) (sndE G a X y c h1) (sndE G b X z c h2) (marks_of h3 _)
    | _ => exact nomatch h
  | .chn op op' a b b', X, x, c, h => by
    cases x with
    | Compare y os zs p =>
      match os, zs, h with
      | [o, o'], [z, z'], h =>
        obtain ⟨h0, h1, h2, h3, h4, h5⟩ := b6 (show (decide (o = copOf op) && decide (o' = copOf op') && chkE S X.N a X.env.scope y && chkE S X.N b X.env.scope z && chkE S X.N b' X.env.scope z' && noSet z') = true from h)
        obtain rfl : o = copOf op := of_decide_eq_true h0
        obtain rfl : o' = copOf op' := of_decide_eq_true h1
        exact snd_chn (op_cmpD op c.units) (op_cmpD op' c.units) (sndE G a X y c h2) (sndE G b X z c h3) (sndE G b' X z' c h4) (marks_of h5 _)
    | _ => exact nomatch h
  | .ite cc a b, X, x, c, h => by
    cases x with
    | IfExp y z z' p =>
      obtain ⟨h1, h3⟩ := b2 (show (chkE S X.N cc X.env.scope y && noIte y && chkE S X.N a X.env.scope z && chkE S X.N b X.env.scope z') = true from h)
      obtain ⟨h1, h2⟩ := b2 h1
      obtain ⟨h0, h1⟩ := b2 h1
      exact ⟨pe_iteD (sndE G cc X y c h0) h1 (sndE G a X z c h2) (sndE G b X z' c h3), fun q => nomatch q⟩
    | _ => exact nomatch h
  | .idx a b, X, x, c, h => by
    cases x with
    | Subscript y z p =>
      obtain ⟨h1, h2⟩ := b2 (show (chkE S X.N a X.env.scope y && chkE S X.N b X.env.scope z && noSlice z) = true from h)
      obtain ⟨h0, h1⟩ := b2 h1
      exact .val ((pe_ix ix_D (sndE G a X y c h0).pe (sndE G b X z c h1).pe (plain_of h2)).imp fun _ _ _ q => tD_op q) fun _ => rfl
    | _ => exact nomatch h
  | .slc a l hh, X, x, c, h => by
    cases x with
    | Subscript y z p =>
      match z, h with
      | .Slice (some z1) (some z2) none p2, h =>
        obtain ⟨h1, h2⟩ := b2 (show (chkE S X.N a X.env.scope y && chkE S X.N l X.env.scope z1 && chkE S X.N hh X.env.scope z2) = true from h)
        obtain ⟨h0, h1⟩ := b2 h1
        exact .val (pe_slcD (sndE G a X y c h0).pe (sndE G l X z1 c h1).pe (sndE G hh X z2 c h2).pe) fun _ => rfl
    | _ => exact nomatch h
  | .slcL a l, X, x, c, h => by
    cases x with
    | Subscript y z p =>
      match z, h with
      | .Slice (some z1) none none p2, h =>
        obtain ⟨h0, h1⟩ := b2 (show (chkE S X.N a X.env.scope y && chkE S X.N l X.env.scope z1) = true from h)
        exact .val (pe_slcLD (sndE G a X y c h0).pe (sndE G l X z1 c h1).pe) fun _ => rfl
    | _ => exact nomatch h
  | .slcH a l, X, x, c, h => by
    cases x with
    | Subscript y z p =>
      match z, h with
      | .Slice none (some z1) none p2, h =>
        obtain ⟨h0, h1⟩ := b2 (show (chkE S X.N a X.env.scope y && chkE S X.N l X.env.scope z1) = true from h)
        exact .val (pe_slcHD (sndE G a X y c h0).pe (sndE G l X z1 c h1).pe) fun _ => rfl
    | _ => exact nomatch h
  | .call ci as ks, X, x, c, h => by
    cases e : S.fs[ci]? with
    | none =>
      unfold chkE at h
      rw [e] at h
      exact absurd h (by split <;> simp_all)
    | some F =>
      match x, h with
      | .Call (.Name n p) xs kws pos, h =>
        have h : (decide (S.dn[F.f]? = some n) && glB X.env.scope n && nmB n && chkEs S X.N as X.env.scope xs && chkKs S X.N ks X.env.scope F.ks kws) = true := by
          unfold chkE at h
          rw [e] at h
          exact h
        obtain ⟨h1, h4⟩ := b2 h
        obtain ⟨h0, h1, h2, h3⟩ := b4 h1
        refine .val (pe_callD c G e (of_decide_eq_true h0) (glB_ok h1) h2 (sndEs G as X xs c h3) (sndKs G ks X F.ks kws c h4) (chk_stOk h3) (chk_kwOk h4) fun q => ?_) fun _ => rfl
        subst q
        cases as with
        | nil => rfl
        | cons _ _ => exact nomatch h3
  | .blt b a, X, x, c, h => by
    match x, h with
    | .Call (.Name n p) [y] [] pos, h =>
      obtain ⟨h0, h1, h2, h3⟩ := b4 (show (decide (n = bltN b) && glB X.env.scope n && chkE S X.N a X.env.scope y && noStar y) = true from h)
      obtain rfl : n = bltN b := of_decide_eq_true h0
      exact .val (pe_blt c G b (glB_ok h1) (sndE G a X y c h2).pe h3) fun _ => rfl
  | .isi a t, X, x, c, h => by
    match x, h with
    | .Call (.Name n p) [y, .Name z p2] [] pos, h =>
      obtain ⟨h0, h1, h2, h3, h4, h5⟩ := b6 (show (decide (n = "isinstance") && glB X.env.scope n && chkE S X.N a X.env.scope y && noStar y && decide (z = Str.ofString (tyOf t)) && glB X.env.scope z) = true from h)
      obtain rfl : n = "isinstance" := of_decide_eq_true h0
      obtain rfl : z = Str.ofString (tyOf t) := of_decide_eq_true h4
      exact .val (pe_isi c G t (glB_ok h1) (sndE G a X y c h2).pe h3 (glB_ok h5)) fun _ => rfl
  | .lc elt tg it own, X, x, c, h => by
    match x, h with
    | .ListComp y [⟨t, i, [], 0⟩] scope pos, h =>
      obtain ⟨h1, h6⟩ := b2 (show (blkC X.N X.env.scope scope own && chkI S X.N it X.env.scope i && noSet i && tgB X.N scope false tg t && (slots tg).all (fun j => (own.map (·.2)).contains j) && chkE S X.N elt (relS scope X.env.scope) y) = true from h)
      obtain ⟨h1, h5⟩ := b2 h1
      obtain ⟨h1, h4⟩ := b2 h1
      obtain ⟨h1, h3⟩ := b2 h1
      obtain ⟨h1, h2⟩ := b2 h1
      refine .val ((pe_lc (g := gOf X.K tg) (tt := tYes) (te := tD X.K (ev S.gs S.fs cl elt)) c.calm c.nd (sndI G it X t i c h2) (blkOk_by h1) (fun s H C cl fp => tg_ok (X := X.blk s H scope (compEnvC scope cl C X.env) fp) c.calm c.nd blk_own h4) (fun _ _ _ _ _ => pts_nil) (fun s H C cl' fp => (sndE G elt (X.blk s H scope (compEnvC scope cl' C X.env) fp) y (c.blk s H scope _ fp) h6).pe) (fold_of h3 X.env)).imp fun σ H Q q => ?_) fun _ => rfl
      exact lc_read (all_mem h5) (tok_yes X.K) q
  | .lcif elt tg it own cc, X, x, c, h => by
    match x, h with
    | .ListComp y [⟨t, i, [z], 0⟩] scope pos, h =>
      obtain ⟨h1, h8⟩ := b2 (show (blkC X.N X.env.scope scope own && chkI S X.N it X.env.scope i && noSet i && tgB X.N scope false tg t && (slots tg).all (fun j => (own.map (·.2)).contains j) && chkE S X.N elt (relS scope X.env.scope) y &&
        chkE S X.N cc (relS scope X.env.scope) z && noIte z) = true from h)
      obtain ⟨h1, h7⟩ := b2 h1
      obtain ⟨h1, h6⟩ := b2 h1
      obtain ⟨h1, h5⟩ := b2 h1
      obtain ⟨h1, h4⟩ := b2 h1
      obtain ⟨h1, h3⟩ := b2 h1
      obtain ⟨h1, h2⟩ := b2 h1
      refine .val ((pe_lc (g := gOf X.K tg) (tt := tDb X.K (ev S.gs S.fs cl cc)) (te := tD X.K (ev S.gs S.fs cl elt)) c.calm c.nd (sndI G it X t i c h2) (blkOk_by h1) (fun s H C cl fp => tg_ok (X := X.blk s H scope (compEnvC scope cl C X.env) fp) c.calm c.nd blk_own h4) (fun s H C cl' fp => pts_one ((sndE G cc (X.blk s H scope (compEnvC scope cl' C X.env) fp) z (c.blk s H scope _ fp) h7).pt h8)) (fun s H C cl' fp => (sndE G elt (X.blk s H scope (compEnvC scope cl' C X.env) fp) y (c.blk s H scope _ fp) h6).pe) (fold_of h3 X.env)).imp fun σ H Q q => ?_) fun _ => rfl
      exact lc_read (all_mem h5) (tok_b X.K _) q
theorem sndAnd (G : GOk S g k cl) : ∀ (e : E) (X : Cx) (xs : List Expr), CxOk g k X → chkAnd S X.N e X.env.scope xs = true → SndB X .And xs (ev S.gs S.fs cl e)
  | .and a b, X, xs, c, h => by
    match xs, h with
    | y :: z :: r, h =>
      obtain ⟨h1, h2⟩ := b2 (show (chkE S X.N a X.env.scope y && noIte y && (if r.isEmpty = true then chkE S X.N b X.env.scope z && noIte z else chkAnd S X.N b X.env.scope (z :: r))) = true from h)
      obtain ⟨h0, h1⟩ := b2 h1
      have sb : SndB X .And (z :: r) (ev S.gs S.fs cl b) := by
        cases r with
        | nil =>
          obtain ⟨q1, q2⟩ := b2 (show (chkE S X.N b X.env.scope z && noIte z) = true from h2)
          exact .and1 (sndE G b X z c q1) q2
        | cons z' r => exact sndAnd G b X _ c h2
      exact SndB.and (sndE G a X y c h0) h1 sb
  | .var _, _, _, _, h => nomatch h
  | .cst _, _, _, _, h => nomatch h
  | .glo _, _, _, _, h => nomatch h
  | .tup _, _, _, _, h => nomatch h
  | .lst _, _, _, _, h => nomatch h
  | .or _ _, _, _, _, h => nomatch h
  | .not _, _, _, _, h => nomatch h
  | .neg _, _, _, _, h => nomatch h
  | .bin _ _ _, _, _, _, h => nomatch h
  | .cmp _ _ _, _, _, _, h => nomatch h
  | .chn _ _ _ _ _, _, _, _, h => nomatch h
  | .ite _ _ _, _, _, _, h => nomatch h
  | .idx _ _, _, _, _, h => nomatch h
  | .slc _ _ _, _, _, _, h => nomatch h
  | .slcL _ _, _, _, _, h => nomatch h
  | .slcH _ _, _, _, _, h => nomatch h
  | .call _ _ _, _, _, _, h => nomatch h
  | .blt _ _, _, _, _, h => nomatch h
  | .isi _ _, _, _, _, h => nomatch h
  | .lc _ _ _ _, _, _, _, h => nomatch h
  | .lcif _ _ _ _ _, _, _, _, h => nomatch h
theorem sndOr (G : GOk S g k cl) : ∀ (e : E) (X : Cx) (xs : List Expr), CxOk g k X → chkOr S X.N e X.env.scope xs = true → SndB X .Or xs (ev S.gs S.fs cl e)
  | .or a b, X, xs, c, h => by
    match xs, h with
    | y :: z :: r, h =>
      obtain ⟨h1, h2⟩ := b2 (show (chkE S X.N a X.env.scope y && noIte y && (if r.isEmpty = true then chkE S X.N b X.env.scope z && noIte z else chkOr S X.N b X.env.scope (z :: r))) = true from h)
      obtain ⟨h0, h1⟩ := b2 h1
      have sb : SndB X .Or (z :: r) (ev S.gs S.fs cl b) := by
        cases r with
        | nil =>
          obtain ⟨q1, q2⟩ := b2 (show (chkE S X.N b X.env.scope z && noIte z) = true from h2)
          exact .or1 (sndE G b X z c q1) q2
        | cons z' r => exact sndOr G b X _ c h2
      exact SndB.or (sndE G a X y c h0) h1 sb
  | .var _, _, _, _, h => nomatch h
  | .cst _, _, _, _, h => nomatch h
  | .glo _, _, _, _, h => nomatch h
  | .tup _, _, _, _, h => nomatch h
  | .lst _, _, _, _, h => nomatch h
  | .and _ _, _, _, _, h => nomatch h
  | .not _, _, _, _, h => nomatch h
  | .neg _, _, _, _, h => nomatch h
  | .bin _ _ _, _, _, _, h => nomatch h
  | .cmp _ _ _, _, _, _, h => nomatch h
  | .chn _ _ _ _ _, _, _, _, h => nomatch h
  | .ite _ _ _, _, _, _, h => nomatch h
  | .idx _ _, _, _, _, h => nomatch h
  | .slc _ _ _, _, _, _, h => nomatch h
  | .slcL _ _, _, _, _, h => nomatch h
  | .slcH _ _, _, _, _, h => nomatch h
  | .call _ _ _, _, _, _, h => nomatch h
  | .blt _ _, _, _, _, h => nomatch h
  | .isi _ _, _, _, _, h => nomatch h
  | .lc _ _ _ _, _, _, _, h => nomatch h
  | .lcif _ _ _ _ _, _, _, _, h => nomatch h
theorem sndEs (G : GOk S g k cl) : ∀ (es : Es) (X : Cx) (xs : List Expr), CxOk g k X → chkEs S X.N es X.env.scope xs = true → PA X xs (tDs X.K (evs S.gs S.fs cl es))
  | .nil, X, xs, c, h => by
    cases xs with
    | nil => exact pa_nilD
    | cons _ _ => exact nomatch h
  | .cons a r, X, xs, c, h => by
    cases xs with
    | nil => exact nomatch h
    | cons x xs =>
      obtain ⟨h1, h2⟩ := b2 (show (noStar x && chkE S X.N a X.env.scope x && chkEs S X.N r X.env.scope xs) = true from h)
      obtain ⟨h0, h1⟩ := b2 h1
      exact pa_D h0 (sndE G a X x c h1).pe (sndEs G r X xs c h2)
theorem sndKs (G : GOk S g k cl) : ∀ (es : Es) (X : Cx) (ns : List Str) (ks : List Keyword), CxOk g k X → chkKs S X.N es X.env.scope ns ks = true → PK X ks (tDs X.K (evs S.gs S.fs cl es))
  | .nil, X, ns, ks, c, h => by
    cases ks with
    | nil => exact pk_nilD
    | cons _ _ =>
      obtain ⟨_, h⟩ := b2 (show (ns.isEmpty && List.isEmpty (_ :: _)) = true from h)
      exact nomatch h
  | .cons a r, X, ns, ks, c, h => by
    match ns, ks, h with
    | n :: ns, ⟨some m, x, p⟩ :: ks, h =>
      obtain ⟨h1, h2⟩ := b2 (show (decide (n = m) && chkE S X.N a X.env.scope x && chkKs S X.N r X.env.scope ns ks) = true from h)
      obtain ⟨h0, h1⟩ := b2 h1
      exact pk_D (sndE G a X x c h1).pe (sndKs G r X ns ks c h2)
theorem sndI (G : GOk S g k cl) : ∀ (it : It) (X : Cx) (tg x : Expr), CxOk g k X → chkI S X.N it X.env.scope x = true → PI X tg x (tI X.K (evI S.gs S.fs cl it))
  | .exp e, X, tg, x, c, h => pi_exp (sndE G e X x c h).pe
  | .rng e, X, tg, x, c, h => by
    match x, h with
    | .Call (.Name n p) [y] [] pos, h =>
      obtain ⟨h0, h1, h2, h3⟩ := b4 (show (decide (n = "range") && glB X.env.scope n && chkE S X.N e X.env.scope y && noStar y) = true from h)
      obtain rfl : n = "range" := of_decide_eq_true h0
      exact pi_rng (glB_ok h1) (c.free G (by decide +kernel)) (pa_cons (sndE G e X y c h2).pe pa_nil (star_of h3 [] X.env)) (star_of h3 [] X.env)
  | .enm e, X, tg, x, c, h => nomatch h
  | .zip a b, X, tg, x, c, h => nomatch h
end
end
end Rf

namespace Rf
open PySem PySem.Spec PyProof.Rows L2
variable [Kys]

/-- a frame at a moment, seen from an earlier one -/
def Fm (A : Amb) (O0 : Addr → Prop) (K : PySem.W.Frag) (N0 : Addr → Prop) (H0 : Hp) (ρ : Env) (σ : L2.St) (H : Hp) : Prop :=
  ∃ N, Rel A (un O0 N) K ρ σ H ∧ Stp A N0 H0 N H ∧ (∀ (i : Nat) (ds : List D) (a : Addr), ρ[i]? = some (SV.own ds) → σ[i]? = some (some (V.ref a)) → N a) ∧ (∀ a, N a → ∃ vs, H a = some (.lst vs)) ∧ ∀ a, N a → ¬ O0 a
def Out (A : Amb) (O0 : Addr → Prop) (K : PySem.W.Frag) (N0 : Addr → Prop) (H0 : Hp) (E : Ends) : Fl → Prop
  | .nx ρ => ∀ σ H, Fm A O0 K N0 H0 ρ σ H → E.nx σ H
  | .rt d => ∀ v H N, RD A (un O0 N) K H v d → Stp A N0 H0 N H → (∀ a, N a → ¬ A.pr a) → A.SI H → E.rt v H
  | .bk ρ => ∀ σ H, Fm A O0 K N0 H0 ρ σ H → E.bk σ H
  | .ct ρ => ∀ σ H, Fm A O0 K N0 H0 ρ σ H → E.ct σ H
def tS (K : PySem.W.Frag) (m : Env → T Fl) : TS := fun E σ H => ∃ A O0 N0 H0 ρ, Fm A O0 K N0 H0 ρ σ H ∧ (m ρ).wp (Out A O0 K N0 H0 E)

section
variable {A : Amb} {O0 N0 : Addr → Prop} {K : PySem.W.Frag} {H0 : Hp} {ρ : Env} {σ : L2.St} {H : Hp}
theorem Fm.sm {H' : Hp} (f : Fm A O0 K N0 H0 ρ σ H) (s : Sm A H H') (si : A.SI H') : Fm A O0 K N0 H0 ρ σ H' := by
  obtain ⟨N, r, st, ow, nl, dj⟩ := f
  exact ⟨N, r.sm s si, st.trans (Stp.sm s) r.si fun a h => r.npr a (.inr h), ow, nl_sm nl s r.si, dj⟩
/-- from the frame: an expression runs -/
theorem tD_of {m : M} {P : D → Prop} {Q : VK} {N : Addr → Prop} (r : Rel A (un O0 N) K ρ σ H) (w : (m ρ).wp P) (q : ∀ d v H', P d → RD A (un O0 N) K H' v d → Sm A H H' → A.SI H' → Q v H') : tD K m σ H Q :=
  ⟨A, un O0 N, ρ, r, T.wp_mono (fun d p v H' rd sm si => q d v H' p rd sm si) w⟩
theorem Fm.set (f : Fm A O0 K N0 H0 ρ σ H) (i : Nat) {v : V} {d : D} (h : ∀ N, Rel A (un O0 N) K ρ σ H → Stp A N0 H0 N H → RD A (un O0 N) K H v d) : Fm A O0 K N0 H0 (ρ.set i (.val d)) (σ.set i (some v)) H := by
  obtain ⟨N, r, st, ow, nl, dj⟩ := f
  refine ⟨N, r.set i (h N r st), st, fun j ds a e1 e2 => ?_, nl, dj⟩
  rcases set_get e1 with ⟨_, _, e⟩ | ⟨n, e1⟩
  · cases e
  · rw [List.getElem?_set_ne (Ne.symm n)] at e2
    exact ow j ds a e1 e2
end

/-- the reading of an expression that makes a list -/
def tF (K : PySem.W.Frag) (m : Env → T (List D)) : TE := fun σ H Q => ∃ A O ρ, Rel A O K ρ σ H ∧ (m ρ).wp fun ds => ∀ p vs H', H p = none → H' p = some (.lst vs) → RDs A (un O (· = p)) K H' vs ds → Sm A H H' → A.SI H' → Q (.ref p) H'
section
variable {X : Cx}
theorem rds_new {A : Amb} {O : Addr → Prop} {K : PySem.W.Frag} {H : Hp} {p : Addr} {vs ws : List V} {ds : List D} (hp : H p = none) (si : A.SI H) (r : RDs A O K H ws ds) : RDs A (un O (· = p)) K (upd H p (.lst vs)) ws ds :=
  r.mono (fun a us e n => ⟨by rw [upd_ne (ne_of_none e hp)]; exact e, fun q => q.elim n fun z => by rw [z, hp] at e; cases e⟩) fun a us e => sqT_sm (A := A) (Sm.new hp) si e
theorem pe_lstF {xs : List Expr} {pos : Pos} {ms : Env → T (List D)} (h : PA X xs (tDs X.K ms)) (hl : ∀ ρ P, (ms ρ).wp P → (ms ρ).wp fun ds => ds.length ≤ sz ∧ P ds) : PE X (.List xs pos) (tF X.K ms) := by
  refine (pe_lst h).imp fun σ H Q q => ?_
  obtain ⟨A, O, ρ, r, w⟩ := q
  refine ⟨A, O, ρ, r, T.wp_mono (fun ds z vs H1 rds sm si => ?_) (hl ρ _ w)⟩
  refine ⟨by rw [rds.length]; exact Nat.le_trans z.1 szL, fun p hp => z.2 p vs _ ?_ upd_same (rds_new hp si rds) (sm.trans (Sm.new hp)) (A.new si hp)⟩
  cases e : H p with
  | none => rfl
  | some o =>
    by_cases n : A.aS = some p
    · exact absurd hp (A.there si (A.tab si n).1)
    · rw [sm p o e n] at hp; cases hp
theorem pe_addF {a b : Expr} {ma mb : M} {pos : Pos} (ha : PE X a (tD X.K ma)) (hb : PE X b (tD X.K mb)) : PE X (.BinOp a .Add b pos) (tF X.K fun ρ => ((ma ρ).bind fun x => (mb ρ).bind fun y => binD .add x y).bind lst?) := by
  refine (pe_op op_cat ha hb).imp fun σ H Q q => ?_
  obtain ⟨A, O, ρ, r, w⟩ := q
  have w : (((ma ρ).bind fun x => (mb ρ).bind fun y => binD .add x y).bind lst?).wp _ := w
  rw [T.bind_assoc] at w
  refine ⟨A, O, ρ, r, T.wp_mono (fun x w1 v H1 rdx sm1 si1 => ?_) (T.wp_bind.mp w)⟩
  rw [T.bind_assoc] at w1
  refine ⟨A, O, ρ, r.sm sm1 si1, T.wp_mono (fun y w2 v2 H2 rdy sm2 si2 => ?_) (T.wp_bind.mp w1)⟩
  have rx := rdx.sm sm2 si1
  cases rx with
  | lst h1 n1 r1 =>
    cases rdy with
    | lst h2 n2 r2 =>
      have w2 : ((if _ ≤ sz then T.ret (PyData.list _) else .stuck).bind lst?).wp _ := w2
      obtain ⟨hz, w2⟩ := wp_ite (T.wp_bind.mp w2)
      refine ⟨_, _, _, _, rfl, rfl, h1, h2, by rw [r1.length, r2.length]; exact Nat.le_trans hz szL, fun p hp => w2 p _ _ ?_ upd_same (rds_new hp si2 (r1.append r2)) (sm1.trans (sm2.trans (Sm.new hp))) (A.new si2 hp)⟩
      cases e : H p with
      | none => rfl
      | some o =>
        by_cases n : A.aS = some p
        · exact absurd hp (A.there si2 (A.tab si2 n).1)
        · rw [(sm1.trans sm2) p o e n] at hp; cases hp
    | _ => exact w2.elim
  | int i => cases rdy <;> exact w2.elim
  | str z =>
    cases rdy with
    | str z' =>
      have w2 : ((if _ ≤ sz then T.ret (PyData.str _) else .stuck).bind lst?).wp _ := w2
      obtain ⟨_, w2⟩ := wp_ite (T.wp_bind.mp w2)
      exact w2.elim
    | _ => exact w2.elim
  | tup h1 r1 =>
    cases rdy with
    | tup h2 r2 =>
      have w2 : ((if _ ≤ sz then T.ret (PyData.tuple _) else .stuck).bind lst?).wp _ := w2
      obtain ⟨_, w2⟩ := wp_ite (T.wp_bind.mp w2)
      exact w2.elim
    | _ => exact w2.elim
  | _ => cases rdy <;> exact w2.elim
end

section
variable {X : Cx}
/-- a value into a name -/
theorem asg_read {K : PySem.W.Frag} {m : M} {i : Nat} {E : Ends} {σ : L2.St} {H : Hp} (h : tS K (fun ρ => (m ρ).bind fun d => .ret (.nx (ρ.set i (.val d)))) E σ H) : tAsg (tD K m) (gName i) E σ H := by
  obtain ⟨A, O0, N0, H0, ρ, ⟨N, r, st, ow, nl, dj⟩, w⟩ := h
  refine tD_of r (T.wp_bind.mp w) fun d v H' p rd sm si => ?_
  refine p _ _ ⟨N, (r.sm sm si).set i rd, st.trans (Stp.sm sm) r.si fun a h => r.npr a (.inr h), fun j ds a e1 e2 => ?_, nl_sm nl sm r.si, dj⟩
  rcases set_get e1 with ⟨_, _, e⟩ | ⟨n, e1⟩
  · cases e
  · rw [List.getElem?_set_ne (Ne.symm n)] at e2
    exact ow j ds a e1 e2
/-- a new list into a name that owns it -/
theorem own_read {K : PySem.W.Frag} {m : Env → T (List D)} {i : Nat} {E : Ends} {σ : L2.St} {H : Hp} (h : tS K (fun ρ => (m ρ).bind fun ds => .ret (.nx (ρ.set i (.own ds)))) E σ H) : tAsg (tF K m) (gName i) E σ H := by
  obtain ⟨A, O0, N0, H0, ρ, ⟨N, r, st, ow, nl, dj⟩, w⟩ := h
  refine ⟨A, un O0 N, ρ, r, T.wp_mono (fun ds p a vs H' hn ha rds sm si => ?_) (T.wp_bind.mp w)⟩
  have eN : ∀ b, un (un O0 N) (· = a) b ↔ un O0 (un N (· = a)) b := fun b => ⟨fun h => h.elim (fun h => h.elim .inl fun z => .inr (.inl z)) fun z => .inr (.inr z), fun h => h.elim (fun z => .inl (.inl z)) fun z => z.elim (fun y => .inl (.inr y)) .inr⟩
  have r1 := r.sm sm si
  have nO : ¬ un O0 N a := r.fresh hn
  have npr : ¬ A.pr a := fun q => A.there r.si q hn
  have lift : ∀ {v : V} {d : D}, RD A (un O0 N) K H v d → RD A (un O0 (un N (· = a))) K H' v d := fun q =>
    q.mono (fun b us e n => ⟨lst_sm sm r.si e, fun z => ((eN b).mpr z).elim n fun y => by have y : b = a := y; rw [y, hn] at e; cases e⟩) fun b us e => sqT_sm sm r.si e
  have lifts : ∀ {v : List V} {d : List D}, RDs A (un O0 N) K H v d → RDs A (un O0 (un N (· = a))) K H' v d := fun q =>
    q.mono (fun b us e n => ⟨lst_sm sm r.si e, fun z => ((eN b).mpr z).elim n fun y => by have y : b = a := y; rw [y, hn] at e; cases e⟩) fun b us e => sqT_sm sm r.si e
  refine p _ _ ⟨un N (· = a), ⟨?_, fun j d e => ?_, fun j es e => ?_, fun j k es fs b e1 e2 e3 e4 => ?_, fun b hb => ?_, fun b hb => ?_, si⟩, ?_, fun j es b e1 e2 => ?_, fun b hb => ?_, fun b hb => ?_⟩
  · rw [List.length_set, List.length_set]; exact r.len
  · rcases set_get e with ⟨_, _, e⟩ | ⟨n, e⟩
    · cases e
    · rw [List.getElem?_set_ne (Ne.symm n)]
      obtain ⟨v, h1, h2⟩ := r.val j d e
      exact ⟨v, h1, lift h2⟩
  · rcases set_get e with ⟨rfl, hl, e⟩ | ⟨n, e⟩
    · cases e
      exact ⟨a, vs, List.getElem?_set_self (by rw [← r.len]; exact hl), ha, rds.less fun b h => (eN b).mpr h, .inr (.inr rfl)⟩
    · rw [List.getElem?_set_ne (Ne.symm n)]
      obtain ⟨b, us, h1, h2, h3, h4⟩ := r.own j es e
      exact ⟨b, us, h1, lst_sm sm r.si h2, lifts h3, (eN b).mp (.inl h4)⟩
  · have other : ∀ {j' : Nat} {es' : List D}, ρ[j']? = some (.own es') → σ[j']? = some (some (.ref a)) → False := fun q1 q2 => by
      obtain ⟨b', us, h1, _, _, h4⟩ := r.own _ _ q1
      rw [q2] at h1; cases h1
      exact nO h4
    rcases set_get e1 with ⟨ej, hl, e⟩ | ⟨n1, e1⟩
    · rcases set_get e2 with ⟨ek, _, _⟩ | ⟨n2, e2⟩
      · exact ej.trans ek.symm
      · rw [ej, List.getElem?_set_self (by rw [← r.len]; exact hl)] at e3
        cases e3
        rw [List.getElem?_set_ne (Ne.symm n2)] at e4
        exact (other e2 e4).elim
    · rw [List.getElem?_set_ne (Ne.symm n1)] at e3
      rcases set_get e2 with ⟨ek, hl, _⟩ | ⟨n2, e2⟩
      · rw [ek, List.getElem?_set_self (by rw [← r.len]; exact hl)] at e4
        cases e4
        exact (other e1 e3).elim
      · rw [List.getElem?_set_ne (Ne.symm n2)] at e4
        exact r.uniq j k es fs b e1 e2 e3 e4
  · rcases (eN b).mpr hb with z | z
    · exact r1.trk b z
    · have z : b = a := z
      rw [z, ha]; simp
  · rcases (eN b).mpr hb with z | z
    · exact r.npr b z
    · have z : b = a := z
      rw [z]; exact npr
  · refine st.trans ⟨fun b o e _ n => sm b o e n, fun b hb => ?_⟩ r.si fun b hb => ?_
    · rcases hb with z | z
      · exact .inl z
      · have z : b = a := z
        exact .inr (by rw [z]; exact hn)
    · rcases hb with z | z
      · exact r.npr b (.inr z)
      · have z : b = a := z
        rw [z]; exact npr
  · rcases set_get e1 with ⟨rfl, hl, _⟩ | ⟨n, e1⟩
    · rw [List.getElem?_set_self (by rw [← r.len]; exact hl)] at e2
      cases e2
      exact .inr rfl
    · rw [List.getElem?_set_ne (Ne.symm n)] at e2
      exact .inl (ow j es b e1 e2)
  · rcases hb with z | z
    · exact nl_sm nl sm r.si b z
    · have z : b = a := z
      exact ⟨vs, by rw [z]; exact ha⟩
  · rcases hb with z | z
    · exact dj b z
    · have z : b = a := z
      rw [z]; exact fun q => nO (.inl q)
end
end Rf

namespace Rf
open PySem PySem.Spec PyProof.Rows L2
variable [Kys]

def noComp : Expr → Bool
  | .ListComp _ _ _ _ => false
  | .SetComp _ _ _ _ => false
  | .DictComp _ _ _ _ _ => false
  | _ => true
def noTup : Expr → Bool
  | .Tuple _ _ _ => false
  | _ => true
theorem swaps_of {x : Expr} (h : noComp x = true) (tg : Option Expr) (l : Nat) (env : PySem.Env) : swapsWith x tg l env = pure false := by
  cases x <;> first | rfl | exact nomatch h
theorem sole_tup {x : Expr} (ts : List Expr) (k : Nat) (p : Pos) (l : Nat) (env : PySem.Env) : swapsWithSole [.Tuple ts k p] x l env = pure false := by
  cases x <;> rfl
theorem stores_of {x : Expr} (h : noTup x = true) (ts : List Expr) (k : Nat) (p : Pos) (env : PySem.Env) : swappedStores [.Tuple ts k p] x env = pure none := by
  cases x <;> first | rfl | exact nomatch h

def isStar : Expr → Bool
  | .Starred _ _ => true
  | _ => false
theorem star_is (e : Expr) : (match e with | .Starred .. => true | _ => false) = isStar e := by cases e <;> rfl
theorem isStar_no {e : Expr} (h : noStar e = true) : isStar e = false := by cases e <;> first | rfl | exact nomatch h
/-- how a, b = x, y is stored: one by one from the tuple, or from the right -/
def parN (sc : Scope) (x y : Str) (px py : Pos) (a b : Expr) : Bool :=
  !(decide (sc.names.lookup x = some .local) && decide (sc.names.lookup y = some .local) && (py.line == px.line)) || (foldedForSure 8 a && foldedForSure 8 b)
def parS (sc : Scope) (x y : Str) (px py : Pos) (a b : Expr) : Bool :=
  decide (sc.names.lookup x = some .local) && decide (sc.names.lookup y = some .local) && (py.line == px.line) && decide (x ≠ y) && !(foldedForSure 8 a && foldedForSure 8 b) && !(constantsAlone 8 a && constantsAlone 8 b)

section
variable {X : Cx}
theorem blockFn (hk : X.env.scope.kind = .function) : X.env.blockKind = .function := by unfold Env.blockKind; rw [hk]; rfl
theorem stores_some {x y : Str} {px py pt pt2 : Pos} {kt k2 : Nat} {a b : Expr} (hk : X.env.scope.kind = .function) (ha : noStar a = true) (hb : noStar b = true) (h : parS X.env.scope x y px py a b = true) :
    swappedStores [.Tuple [.Name x px, .Name y py] kt pt] (.Tuple [a, b] k2 pt2) X.env = pure (some [x, y]) := by
  unfold parS at h
  simp only [Bool.and_eq_true, decide_eq_true_eq, Bool.not_eq_true', beq_iff_eq] at h
  obtain ⟨⟨⟨⟨⟨h1, h2⟩, h3⟩, h4⟩, h5⟩, h6⟩ := h
  have k1 : X.env.kindOf x = some .local := h1
  have k2 : X.env.kindOf y = some .local := h2
  have sa := isStar_no ha
  have sb := isStar_no hb
  have q5 : [a, b].all (foldedForSure 8) = false := by simpa using h5
  have q6 : [a, b].all (constantsAlone 8) = false := by simpa using h6
  unfold swappedStores
  simp only [blockFn hk, List.length_cons, List.length_nil, List.any_cons, List.any_nil, star_is, sa, sb, List.head?_cons, Option.map_some, Option.getD_some, Expr.pos, List.filterMap_cons, List.filterMap_nil, k1, k2, h3, beq_self_eq_true, Bool.and_self, if_true, q5, q6]
  have ed : [x, y].eraseDups = [x, y] := by
    simp [List.eraseDups_cons, Ne.symm h4]
  simp [ed]
  intro q
  exfalso
  rcases q with q | q
  · cases a <;> first | (cases q; done) | (simp [noStar] at ha; done)
  · cases b <;> first | (cases q; done) | (simp [noStar] at hb; done)
theorem stores_none {x y : Str} {px py pt pt2 : Pos} {kt k2 : Nat} {a b : Expr} (hk : X.env.scope.kind = .function) (ha : noStar a = true) (hb : noStar b = true) (h : parN X.env.scope x y px py a b = true) :
    swappedStores [.Tuple [.Name x px, .Name y py] kt pt] (.Tuple [a, b] k2 pt2) X.env = pure none := by
  have sa := isStar_no ha
  have sb := isStar_no hb
  have kx : X.env.kindOf x = X.env.scope.names.lookup x := rfl
  have ky : X.env.kindOf y = X.env.scope.names.lookup y := rfl
  unfold parN at h
  unfold swappedStores
  simp only [blockFn hk, List.length_cons, List.length_nil, List.any_cons, List.any_nil, star_is, sa, sb, List.head?_cons, Option.map_some, Option.getD_some, Expr.pos, List.filterMap_cons, List.filterMap_nil, beq_self_eq_true, kx, ky]
  by_cases c1 : X.env.scope.names.lookup x = some .local
  · by_cases c2 : X.env.scope.names.lookup y = some .local
    · by_cases c3 : py.line = px.line
      · have hf : foldedForSure 8 a = true ∧ foldedForSure 8 b = true := by simpa [c1, c2, c3] using h
        simp [c1, c2, c3, hf.1, hf.2]
        try (split <;> rfl)
      · simp [c1, c2, c3]
    · simp [c1, c2]
  · by_cases c2 : X.env.scope.names.lookup y = some .local
    · by_cases c3 : py.line = px.line
      · simp [c1, c2, c3]
      · simp [c1, c2, c3]
    · simp [c1, c2]
end
end Rf

namespace Rf
open PySem PySem.Spec PyProof.Rows L2
variable [Kys]

section
variable {K : PySem.W.Frag} {E : Ends} {σ : L2.St} {H : Hp}
/-- one own list, changed -/
theorem Rel.grow {A : Amb} {O : Addr → Prop} {ρ : Env} {i : Nat} {ds es : List D} {a : Addr} {vs ws : List V} (r : Rel A O K ρ σ H) (e : ρ[i]? = some (.own ds)) (e1 : σ[i]? = some (some (.ref a))) (ha : H a = some (.lst vs)) (hO : O a)
    (rds : RDs A O K H ws es) : Rel A O K (ρ.set i (.own es)) σ (L2.upd H a (.lst ws)) where
  len := by rw [List.length_set]; exact r.len
  val := fun j d q => by
    rcases set_get q with ⟨_, _, q⟩ | ⟨n, q⟩
    · cases q
    · obtain ⟨v, h1, h2⟩ := r.val j d q
      exact ⟨v, h1, h2.upd hO ha⟩
  own := fun j fs q => by
    rcases set_get q with ⟨rfl, hl, q⟩ | ⟨n, q⟩
    · cases q
      exact ⟨a, ws, e1, upd_same, rds.upd hO ha, hO⟩
    · obtain ⟨b, us, h1, h2, h3, h4⟩ := r.own j fs q
      have nb : b ≠ a := fun z => n (r.uniq j i fs ds a q e (z ▸ h1) e1)
      exact ⟨b, us, h1, by rw [upd_ne nb]; exact h2, h3.upd hO ha, h4⟩
  uniq := fun j k fs gs b q1 q2 q3 q4 => by
    have back : ∀ {j : Nat} {fs : List D}, (ρ.set i (.own es))[j]? = some (.own fs) → ∃ fs', ρ[j]? = some (.own fs') := fun {j fs} q => by
      rcases set_get q with ⟨rfl, _, _⟩ | ⟨n, q⟩
      · exact ⟨ds, e⟩
      · exact ⟨fs, q⟩
    obtain ⟨f1, g1⟩ := back q1
    obtain ⟨f2, g2⟩ := back q2
    exact r.uniq j k f1 f2 b g1 g2 q3 q4
  trk := fun b h => by
    by_cases z : b = a
    · rw [z, upd_same]; simp
    · rw [upd_ne z]; exact r.trk b h
  npr := r.npr
  si := A.keep r.si fun b hb => upd_ne fun z => r.npr a hO (z ▸ hb)
/-- the own list takes one more -/
theorem app_read {m : M} {i : Nat} (h : tS K (fun ρ => match ρ[i]? with
      | some (.own ds) => (m ρ).bind fun d => if ds.length < sz then .ret (.nx (ρ.set i (.own (ds ++ [d])))) else .stuck
      | _ => .stuck) E σ H) : tDrop (tBM K "list" rAppend (tVar i) (tCons (tD K m) tNil)) E σ H := by
  obtain ⟨A, O0, N0, H0, ρ, ⟨N, r, st, ow, nl, dj⟩, w⟩ := h
  have w : (match ρ[i]? with
      | some (.own ds) => (m ρ).bind fun d => if ds.length < sz then T.ret (Fl.nx (ρ.set i (.own (ds ++ [d])))) else .stuck
      | _ => .stuck).wp (Out A O0 K N0 H0 E) := w
  cases e : ρ[i]? with
  | none => rw [e] at w; exact w.elim
  | some sv =>
    rw [e] at w
    cases sv with
    | no => exact w.elim
    | val d => exact w.elim
    | own ds =>
      obtain ⟨a, vs, e1, ha, rds, hO⟩ := r.own i ds e
      have hN : N a := ow i ds a e e1
      refine ⟨_, e1, .inl ⟨rfl, _, SqL.of ha⟩, tD_of r (T.wp_bind.mp w) fun d v H' p rd sm si => ?_⟩
      obtain ⟨hz, p⟩ := wp_ite p
      have ha' : H' a = some (.lst vs) := lst_sm sm r.si ha
      have r' := r.sm sm si
      refine ⟨a, vs, v, rfl, rfl, ha', ?_, ?_⟩
      · rw [rds.length]; exact Nat.lt_of_lt_of_le hz szL
      have np : ∀ b, N b → ¬ A.pr b := fun b h => r.npr b (.inr h)
      have r2 := r'.grow e e1 ha' hO ((rds.sm sm r.si).append (.cons rd .nil))
      refine p _ _ ⟨N, r2, (st.trans (Stp.sm sm) r.si np).trans ⟨fun b o eb nb ns => ?_, fun b h => .inl h⟩ si np, fun j fs b q1 q2 => ?_, fun b hb => ?_, dj⟩
      · rw [upd_ne (show b ≠ a from fun z => nb (z ▸ hN))]; exact eb
      · rcases set_get q1 with ⟨rfl, _, _⟩ | ⟨n, q1⟩
        · rw [e1] at q2; cases q2; exact hN
        · exact ow j fs b q1 q2
      · by_cases z : b = a
        · exact ⟨_, by rw [z]; exact upd_same⟩
        · obtain ⟨us, q⟩ := nl_sm nl sm r.si b hb
          exact ⟨us, by rw [upd_ne z]; exact q⟩
/-- an own list becomes a value -/
theorem frz_fm {A : Amb} {O0 N0 : Addr → Prop} {H0 : Hp} {ρ : Env} {i : Nat} {ds : List D} (f : Fm A O0 K N0 H0 ρ σ H) (e : ρ[i]? = some (.own ds)) : Fm A O0 K N0 H0 (ρ.set i (.val (.list ds))) σ H := by
  obtain ⟨N, r, st, ow, nl, dj⟩ := f
  obtain ⟨a, vs, e1, ha, rds, hO⟩ := r.own i ds e
  have hN : N a := ow i ds a e e1
  have ls : ∀ b, un O0 (fun c => N c ∧ c ≠ a) b → un O0 N b := fun b h => h.elim .inl fun z => .inr z.1
  have nb : ∀ {j : Nat} {fs : List D} {b : Addr}, j ≠ i → ρ[j]? = some (.own fs) → σ[j]? = some (some (.ref b)) → b ≠ a := fun n q1 q2 z => n (r.uniq _ i _ ds a q1 e (z ▸ q2) e1)
  refine ⟨fun c => N c ∧ c ≠ a, ⟨by rw [List.length_set]; exact r.len, fun j d q => ?_, fun j fs q => ?_, fun j k fs gs b q1 q2 q3 q4 => ?_, fun b h => r.trk b (ls b h), fun b h => r.npr b (ls b h), r.si⟩, ⟨st.keep, fun b h => st.more b h.1⟩, fun j fs b q1 q2 => ?_, fun b h => nl b h.1, fun b h => dj b h.1⟩
  · rcases set_get q with ⟨rfl, _, q⟩ | ⟨n, q⟩
    · cases q
      exact ⟨_, e1, .lst ha (fun h => h.elim (dj a hN) fun z => z.2 rfl) (rds.less ls)⟩
    · obtain ⟨v, h1, h2⟩ := r.val j d q
      exact ⟨v, h1, h2.less ls⟩
  · rcases set_get q with ⟨_, _, q⟩ | ⟨n, q⟩
    · cases q
    · obtain ⟨b, us, h1, h2, h3, h4⟩ := r.own j fs q
      exact ⟨b, us, h1, h2, h3.less ls, .inr ⟨ow j fs b q h1, nb n q h1⟩⟩
  · rcases set_get q1 with ⟨_, _, q⟩ | ⟨n1, q1⟩
    · cases q
    · rcases set_get q2 with ⟨_, _, q⟩ | ⟨n2, q2⟩
      · cases q
      · exact r.uniq j k fs gs b q1 q2 q3 q4
  · rcases set_get q1 with ⟨_, _, q⟩ | ⟨n, q1⟩
    · cases q
    · exact ⟨ow j fs b q1 q2, nb n q1 q2⟩

/-- a tuple's items into names -/
theorem unp_read {m : M} {is : List Nat} (h : tS K (fun ρ => (m ρ).bind fun d => (orStuck (bindTg (.tp is) d ρ)).bind fun ρ' => .ret (.nx ρ')) E σ H) : tAsg (tD K m) (gOf K (.tp is)) E σ H := by
  obtain ⟨A, O0, N0, H0, ρ, ⟨N, r, st, ow, nl, dj⟩, w⟩ := h
  refine tD_of r (T.wp_bind.mp w) fun d v H' p rd sm si => ?_
  obtain ⟨ρ', eb, p⟩ := wp_orStuck (T.wp_bind.mp p)
  have r1 := r.sm sm si
  refine gOf_okO r1 rd eb fun σ' r' _ ho => p _ _ ⟨N, r', st.trans (Stp.sm sm) r.si fun a h => r.npr a (.inr h), fun j ds a e1 e2 => ?_, nl_sm nl sm r.si, dj⟩
  obtain ⟨q1, q2⟩ := ho j ds a e1 e2
  exact ow j ds a q1 q2
end
end Rf

namespace Rf
open PySem PySem.Spec PyProof.Rows L2
variable [Kys]

section
variable {K : PySem.W.Frag} {E : Ends} {σ : L2.St} {H : Hp}
/-- a, b = x, y -/
theorem par_read {ma mb : M} {i j : Nat} (h : tS K (fun ρ => (ma ρ).bind fun x => (mb ρ).bind fun y => .ret (.nx ((ρ.set i (.val x)).set j (.val y)))) E σ H) :
    tPar i j (tCons (tD K ma) (tCons (tD K mb) tNil)) E σ H := by
  obtain ⟨A, O0, N0, H0, ρ, ⟨N, r, st, ow, nl, dj⟩, w⟩ := h
  have np : ∀ b, N b → ¬ A.pr b := fun b h => r.npr b (.inr h)
  refine tD_of r (T.wp_bind.mp w) fun d v H1 p rd sm si => ?_
  refine tD_of (r.sm sm si) (T.wp_bind.mp p) fun d2 v2 H2 p2 rd2 sm2 si2 => ?_
  have r2 := (r.sm sm si).sm sm2 si2
  refine ⟨v, v2, rfl, p2 _ _ ⟨N, (r2.set i (rd.sm sm2 si)).set j rd2, st.trans (Stp.sm (sm.trans sm2)) r.si np, fun l ds a e1 e2 => ?_, nl_sm nl (sm.trans sm2) r.si, dj⟩⟩
  rcases set_get e1 with ⟨_, _, e⟩ | ⟨n, e1⟩
  · cases e
  · rw [List.getElem?_set_ne (Ne.symm n)] at e2
    rcases set_get e1 with ⟨_, _, e⟩ | ⟨n, e1⟩
    · cases e
    · rw [List.getElem?_set_ne (Ne.symm n)] at e2
      exact ow l ds a e1 e2
/-- the same by way of the tuple -/
theorem par_tup {ma mb : M} {i j : Nat} {d : Nat} (h : tS K (fun ρ => (ma ρ).bind fun x => (mb ρ).bind fun y => .ret (.nx ((ρ.set i (.val x)).set j (.val y)))) E σ H) :
    tAsg (tTup (tCons (tD K ma) (tCons (tD K mb) tNil))) (gOf K (.tp [i, j])) E σ H := by
  obtain ⟨A, O0, N0, H0, ρ, ⟨N, r, st, ow, nl, dj⟩, w⟩ := h
  have np : ∀ b, N b → ¬ A.pr b := fun b h => r.npr b (.inr h)
  refine tD_of r (T.wp_bind.mp w) fun d v H1 p rd sm si => ?_
  refine tD_of (r.sm sm si) (T.wp_bind.mp p) fun d2 v2 H2 p2 rd2 sm2 si2 => ?_
  refine ⟨Nat.le_trans (by decide : 2 ≤ sz) szL, fun q hq => ?_⟩
  have r2 := ((r.sm sm si).sm sm2 si2).new (o := .tup [v, v2]) hq
  have sm3 : Sm A H (upd H2 q (.tup [v, v2])) := (sm.trans sm2).trans (Sm.new hq)
  have rdT : RD A (un O0 N) K (upd H2 q (.tup [v, v2])) (.ref q) (.tuple [d, d2]) := .tup (SqT.of upd_same) (.cons ((rd.sm sm2 si).sm (Sm.new hq) si2) (.cons (rd2.sm (Sm.new hq) si2) .nil))
  refine gOf_okO (tg := .tp [i, j]) r2 rdT rfl fun σ' r' _ ho => p2 _ _ ⟨N, r', st.trans (Stp.sm sm3) r.si np, fun l ds a e1 e2 => ?_, nl_sm nl sm3 r.si, dj⟩
  obtain ⟨q1, q2⟩ := ho l ds a e1 e2
  exact ow l ds a q1 q2
theorem exp_read {m : M} (h : tS K (fun ρ => (m ρ).bind fun _ => .ret (.nx ρ)) E σ H) : tDrop (tD K m) E σ H := by
  obtain ⟨A, O0, N0, H0, ρ, f, w⟩ := h
  obtain ⟨N, r, _⟩ := id f
  exact tD_of r (T.wp_bind.mp w) fun d v H1 p rd sm si => p _ _ (f.sm sm si)
theorem ret_read {m : M} (h : tS K (fun ρ => (m ρ).bind fun d => .ret (.rt d)) E σ H) : tRet (tD K m) E σ H := by
  obtain ⟨A, O0, N0, H0, ρ, ⟨N, r, st, ow, nl, dj⟩, w⟩ := h
  have np : ∀ b, N b → ¬ A.pr b := fun b h => r.npr b (.inr h)
  exact tD_of r (T.wp_bind.mp w) fun d v H1 p rd sm si => p v H1 N rd (st.trans (Stp.sm sm) r.si np) np si
theorem if_read {m : M} {ta tb : Env → T Fl} (h : tS K (fun ρ => (m ρ).bind fun x => (isB x).bind fun k => if k then ta ρ else tb ρ) E σ H) : tIfS (tDb K m) (tS K ta) (tS K tb) E σ H := by
  obtain ⟨A, O0, N0, H0, ρ, f, w⟩ := h
  obtain ⟨N, r, _⟩ := id f
  refine ⟨A, un O0 N, ρ, r, T.wp_mono (fun d z => ?_) (T.wp_bind.mp w)⟩
  cases d with
  | bool b =>
    refine ⟨b, rfl, fun H1 sm si => ?_⟩
    cases b with
    | true => exact ⟨A, O0, N0, H0, ρ, f.sm sm si, z⟩
    | false => exact ⟨A, O0, N0, H0, ρ, f.sm sm si, z⟩
  | _ => exact z.elim
theorem seq_read {ta tb : Env → T Fl} (h : tS K (fun ρ => (ta ρ).bind fun fl => match fl with
    | .nx ρ' => tb ρ'
    | fl => .ret fl) E σ H) : tSeq (tS K ta) (tS K tb) E σ H := by
  obtain ⟨A, O0, N0, H0, ρ, f, w⟩ := h
  refine ⟨A, O0, N0, H0, ρ, f, T.wp_mono (fun fl z => ?_) (T.wp_bind.mp w)⟩
  cases fl with
  | nx ρ' => exact fun σ' H' f' => ⟨A, O0, N0, H0, ρ', f', z⟩
  | rt d => exact z
  | bk ρ' => exact z
  | ct ρ' => exact z
theorem for_read {tg : Tg} {mi : Env → T (List D)} {tb : Env → T Fl} (h : tS K (fun ρ => (mi ρ).bind fun ds => forGo (fun d ρ => (orStuck (bindTg tg d ρ)).bind fun ρ' => tb ρ') ds ρ) E σ H) : tFor (tI K mi) (gOf K tg) (tS K tb) E σ H := by
  obtain ⟨A, O0, N0, H0, ρ, ⟨N1, r, st, ow, nl, dj⟩, w⟩ := h
  have np : ∀ b, N1 b → ¬ A.pr b := fun b h => r.npr b (.inr h)
  refine ⟨A, O0, N1, ρ, r, nl, T.wp_mono (fun ds q J H1 gv sm si => ?_) (T.wp_bind.mp w)⟩
  have st1 : Stp A N0 H0 N1 H1 := st.trans (Stp.sm sm) r.si np
  refine ⟨fun i m σi Hi => m = ds.length - i ∧ i ≤ ds.length ∧ ∃ ρi, Fm A O0 K N1 H1 ρi σi Hi ∧ (forGo (fun d ρ => (orStuck (bindTg tg d ρ)).bind fun ρ' => tb ρ') (ds.drop i) ρi).wp (Out A O0 K N0 H0 E),
    ⟨_, rfl, Nat.zero_le _, ρ, ⟨N1, r.sm sm si, Stp.refl, ow, nl_sm nl sm r.si, dj⟩, q⟩, ?_⟩
  rintro i m σi Hi ⟨rfl, hi, ρi, fi, wi⟩
  obtain ⟨Ni, ri, si', owi, nli, dji⟩ := id fi
  have g := gv Ni Hi si' ri.lay i
  have up : ∀ {ρ' σ' H'}, Fm A O0 K N1 H1 ρ' σ' H' → Fm A O0 K N0 H0 ρ' σ' H' := fun ⟨N', r', s', o', n', d'⟩ => ⟨N', r', st1.trans s' si fun b h => r'.npr b (.inr h), o', n', d'⟩
  by_cases hlt : i < ds.length
  · obtain ⟨go, yl⟩ := g.1 ds[i] (List.getElem?_eq_getElem hlt)
    rw [List.drop_eq_getElem_cons hlt] at wi
    refine .inr ⟨go, fun σ' H' => ∃ ρ', Fm A O0 K N1 H1 ρ' σ' H' ∧ (forGo (fun d ρ => (orStuck (bindTg tg d ρ)).bind fun ρ' => tb ρ') (ds.drop (i + 1)) ρ').wp (Out A O0 K N0 H0 E), fun σ' H' ⟨ρ', z1, z2⟩ => ⟨ds.length - (i + 1), by omega, rfl, hlt, ρ', z1, z2⟩, fun x H3 y => ?_⟩
    obtain ⟨rdx, sm3, si3⟩ := yl x H3 y
    have wi := T.wp_bind.mp wi
    obtain ⟨ρ', eb, wi⟩ := wp_orStuck (T.wp_bind.mp wi)
    refine gOf_okO (ri.sm sm3 si3) rdx eb fun σ2 r4 _ ho => ⟨A, O0, N1, H1, ρ', ⟨Ni, r4, si'.trans (Stp.sm sm3) ri.si (fun b h => ri.npr b (.inr h)), fun j es a e1 e2 => ?_, nl_sm nli sm3 ri.si, dji⟩, T.wp_mono (fun fl z => ?_) wi⟩
    · obtain ⟨q1, q2⟩ := ho j es a e1 e2
      exact owi j es a q1 q2
    · cases fl with
      | nx ρ2 => exact fun σ' H' f' => ⟨ρ2, f', z⟩
      | ct ρ2 => exact fun σ' H' f' => ⟨ρ2, f', z⟩
      | bk ρ2 => exact fun σ' H' f' => z σ' H' (up f')
      | rt d => exact fun v H' N' rd' s' np' si' => z v H' N' rd' (st1.trans s' si np') np' si'
  · have e : i = ds.length := by omega
    subst e
    rw [List.drop_length] at wi
    exact .inl ⟨g.2 rfl, wi _ _ (up fi)⟩
end

def isFresh : E → Bool
  | .lst _ => true
  | .bin .add _ _ => true
  | .lc _ _ _ _ => true
  | .lcif _ _ _ _ _ => true
  | _ => false
section
variable (Z : Stat) (N : List Str)
def chkNm (sc : Scope) (i : Nat) : Expr → Bool
  | .Name x _ => decide (N[i]? = some x) && locB sc x
  | _ => false
mutual
def chkS : S → Scope → Stmt → Bool
  | .set i e, sc, x => match x with
    | .Assign [t] v _ => chkNm N sc i t && chkE Z N e sc v && (noComp v || isFresh e)
    | _ => false
  | .own i e, sc, x => match x with
    | .Assign [t] v _ => chkNm N sc i t && chkE Z N e sc v && isFresh e
    | _ => false
  | .frz _, _, _ => false
  | .unp is e, sc, x => match x with
    | .Assign [.Tuple ts _ _] v _ => tgB.nmTs N sc true is ts && chkE Z N e sc v && noTup v
    | _ => false
  | .par i j a b, sc, x => match x with
    | .Assign [.Tuple [.Name n p, .Name n' p'] _ _] (.Tuple [v, v'] _ _) _ => tgB.nmTs N sc true [i, j] [.Name n p, .Name n' p'] && chkE Z N a sc v && chkE Z N b sc v' && noStar v && noStar v' && (parN sc n n' p p' v v' || parS sc n n' p p' v v')
    | _ => false
  | .app i e, sc, x => match x with
    | .Expr (.Call (.Attribute (.Name n _) a ap) [y] [] cp) _ => decide (N[i]? = some n) && visB sc n && nmB n && decide (a = "append") && (ap.endLine == cp.line) && chkE Z N e sc y && noStar y
    | _ => false
  | .exp e, sc, x => match x with
    | .Expr v _ => chkE Z N e sc v && noComp v
    | _ => false
  | .ret e, sc, x => match x with
    | .Return (some v) _ => chkE Z N e sc v
    | _ => false
  | .retN, _, x => match x with
    | .Return none _ => true
    | _ => false
  | .ifs c a b, sc, x => match x with
    | .If y as bs _ => chkE Z N c sc y && noIte y && chkSs a sc as && chkSs b sc bs
    | _ => false
  | .fr tg it body, sc, x => match x with
    | .For t i bs [] _ => tgB N sc true tg t && chkI Z N it sc i && noSet i && chkSs body sc bs
    | _ => false
  | .never, _, _ => true
def chkSs : Ss → Scope → List Stmt → Bool
  | .nil, _, xs => xs.isEmpty
  | .cons s r, sc, xs => match s, xs with
    | .frz _, xs => chkSs r sc xs
    | s, x :: xs => chkS s sc x && chkSs r sc xs
    | _, [] => false
end
end
end Rf

namespace Rf
open PySem PySem.Spec PyProof.Rows L2
variable [Kys]

/-- a def's body -/
structure BoOk (g : Gb) (k : Nat) (X : Cx) : Prop extends CxOk g k X where
  xe : X.xe = fun _ _ => False
  fn : X.fn = fun _ => true
  kind : X.env.scope.kind = .function
theorem BoOk.own {g : Gb} {k : Nat} {X : Cx} (c : BoOk g k X) : Own X X.env.scope := fun n h => ⟨locB_ok h, .inl (by rw [c.fn])⟩

section
variable {g : Gb} {k : Nat} {X : Cx} {Z : Stat} {cl : Nat → List D → T D}
theorem nm_parts {i : Nat} {x : Expr} (h : chkNm X.N X.env.scope i x = true) : ∃ n p, x = .Name n p ∧ X.N[i]? = some n ∧ locB X.env.scope n = true := by
  cases x with
  | Name n p =>
    obtain ⟨h1, h2⟩ := b2 (show (decide (X.N[i]? = some n) && locB X.env.scope n) = true from h)
    exact ⟨n, p, rfl, of_decide_eq_true h1, h2⟩
  | _ => exact nomatch h
theorem ps_val {i : Nat} {n : Str} {p pos : Pos} {v : Expr} {t : TE} (c : BoOk g k X) (hi : X.N[i]? = some n) (hl : locB X.env.scope n = true) (hv : PE X v t) (hs : noComp v = true) : PS X (.Assign [.Name n p] v pos) (tAsg t (gName i)) :=
  ps_set c.nd hi (c.own n hl).1 hv (swaps_of hs _ _ _) (c.own n hl).2
/-- a comprehension into a name: at once, or as any value -/
theorem ps_lcN {i : Nat} {n : Str} {py spos : Pos} {elt tg iter : Expr} {ifs : List Expr} {scope : Scope} {own : List (Str × Nat)} {pos : Pos} {wi : TI} {gg : TG} {tt : TT} {te : TE} (c : BoOk g k X) (hi : X.N[i]? = some n) (hl : locB X.env.scope n = true)
    (h1 : PI X tg iter wi) (ok : BlkOk X.N X.env.scope scope own)
    (hg : ∀ (s : Shared) (H : Hp) (C : Addr) (cl : List (Str × Addr)) (fp : List Addr), PG (X.blk s H scope (compEnvC scope cl C X.env) fp) tg gg) (ht : ∀ (s : Shared) (H : Hp) (C : Addr) (cl : List (Str × Addr)) (fp : List Addr), PTs (X.blk s H scope (compEnvC scope cl C X.env) fp) ifs tt)
    (he : ∀ (s : Shared) (H : Hp) (C : Addr) (cl : List (Str × Addr)) (fp : List Addr), PE (X.blk s H scope (compEnvC scope cl C X.env) fp) elt te) (hs : ∀ x, foldedSetIterable iter X.env x = pure x) :
    PS X (.Assign [.Name n py] (.ListComp elt [⟨tg, iter, ifs, 0⟩] scope pos) spos) (tAsg (tLc wi gg tt te (own.map (·.2))) (gName i)) := by
  have sw : swapsWith (.ListComp elt [⟨tg, iter, ifs, 0⟩] scope pos) (some (.Name n py)) spos.line X.env =
      pure (X.env.blockKind == .function && X.env.kindOf n == some .local && py.line == pos.line && !(scope.names.any fun (m, k) => m == n && (k == .local || k == .cell))) := rfl
  cases e : (X.env.blockKind == .function && X.env.kindOf n == some .local && py.line == pos.line && !(scope.names.any fun (m, k) => m == n && (k == .local || k == .cell))) with
  | false =>
    rw [e] at sw
    exact ps_set c.nd hi (c.own n hl).1 (pe_lc c.calm c.nd h1 ok hg ht he hs) sw (c.own n hl).2
  | true =>
    rw [e] at sw
    have q : X.env.kindOf n = some .local := by
      simp only [Bool.and_eq_true, beq_iff_eq] at e
      exact e.1.1.2
    exact ps_setLc c.calm c.nd hi q sw h1 ok hg ht he hs
end

section
variable {g : Gb} {k : Nat} {Z : Stat} {cl : Nat → List D → T D}
/-- a comprehension's parts -/
theorem lc_parts (G : GOk Z g k cl) {elt : E} {tg : Tg} {it : It} {own : List (Str × Nat)} {X : Cx} {x : Expr} (c : CxOk g k X) (h : chkE Z X.N (.lc elt tg it own) X.env.scope x = true) :
    ∃ y t i scope pos, x = .ListComp y [⟨t, i, [], 0⟩] scope pos ∧ PI X t i (tI X.K (evI Z.gs Z.fs cl it)) ∧ BlkOk X.N X.env.scope scope own ∧
      (∀ (s : Shared) (H : Hp) (C : Addr) (cl : List (Str × Addr)) (fp : List Addr), PG (X.blk s H scope (compEnvC scope cl C X.env) fp) t (gOf X.K tg)) ∧
      (∀ (s : Shared) (H : Hp) (C : Addr) (cl' : List (Str × Addr)) (fp : List Addr), PE (X.blk s H scope (compEnvC scope cl' C X.env) fp) y (tD X.K (ev Z.gs Z.fs cl elt))) ∧ (∀ v, foldedSetIterable i X.env v = pure v) ∧ ∀ j ∈ slots tg, j ∈ own.map (·.2) := by
  match x, h with
  | .ListComp y [⟨t, i, [], 0⟩] scope pos, h =>
    obtain ⟨h1, h2, h3, h4, h5, h6⟩ := b6 (show (blkC X.N X.env.scope scope own && chkI Z X.N it X.env.scope i && noSet i && tgB X.N scope false tg t && (slots tg).all (fun j => (own.map (·.2)).contains j) && chkE Z X.N elt (relS scope X.env.scope) y) = true from h)
    exact ⟨y, t, i, scope, pos, rfl, sndI G it X t i c h2, blkOk_by h1, fun s H C cl fp => tg_ok (X := X.blk s H scope (compEnvC scope cl C X.env) fp) c.calm c.nd blk_own h4,
      fun s H C cl' fp => (sndE G elt (X.blk s H scope (compEnvC scope cl' C X.env) fp) y (c.blk s H scope _ fp) h6).pe, fold_of h3 X.env, all_mem h5⟩
theorem lcif_parts (G : GOk Z g k cl) {elt cc : E} {tg : Tg} {it : It} {own : List (Str × Nat)} {X : Cx} {x : Expr} (c : CxOk g k X) (h : chkE Z X.N (.lcif elt tg it own cc) X.env.scope x = true) :
    ∃ y t i z scope pos, x = .ListComp y [⟨t, i, [z], 0⟩] scope pos ∧ PI X t i (tI X.K (evI Z.gs Z.fs cl it)) ∧ BlkOk X.N X.env.scope scope own ∧
      (∀ (s : Shared) (H : Hp) (C : Addr) (cl : List (Str × Addr)) (fp : List Addr), PG (X.blk s H scope (compEnvC scope cl C X.env) fp) t (gOf X.K tg)) ∧
      (∀ (s : Shared) (H : Hp) (C : Addr) (cl' : List (Str × Addr)) (fp : List Addr), PTs (X.blk s H scope (compEnvC scope cl' C X.env) fp) [z] (tDb X.K (ev Z.gs Z.fs cl cc))) ∧
      (∀ (s : Shared) (H : Hp) (C : Addr) (cl' : List (Str × Addr)) (fp : List Addr), PE (X.blk s H scope (compEnvC scope cl' C X.env) fp) y (tD X.K (ev Z.gs Z.fs cl elt))) ∧ (∀ v, foldedSetIterable i X.env v = pure v) ∧ ∀ j ∈ slots tg, j ∈ own.map (·.2) := by
  match x, h with
  | .ListComp y [⟨t, i, [z], 0⟩] scope pos, h =>
    obtain ⟨h0, h8⟩ := b2 (show (blkC X.N X.env.scope scope own && chkI Z X.N it X.env.scope i && noSet i && tgB X.N scope false tg t && (slots tg).all (fun j => (own.map (·.2)).contains j) && chkE Z X.N elt (relS scope X.env.scope) y &&
        chkE Z X.N cc (relS scope X.env.scope) z && noIte z) = true from h)
    obtain ⟨h0, h7⟩ := b2 h0
    obtain ⟨h1, h2, h3, h4, h5, h6⟩ := b6 h0
    exact ⟨y, t, i, z, scope, pos, rfl, sndI G it X t i c h2, blkOk_by h1, fun s H C cl fp => tg_ok (X := X.blk s H scope (compEnvC scope cl C X.env) fp) c.calm c.nd blk_own h4,
      fun s H C cl' fp => pts_one ((sndE G cc (X.blk s H scope (compEnvC scope cl' C X.env) fp) z (c.blk s H scope _ fp) h7).pt h8),
      fun s H C cl' fp => (sndE G elt (X.blk s H scope (compEnvC scope cl' C X.env) fp) y (c.blk s H scope _ fp) h6).pe, fold_of h3 X.env, all_mem h5⟩
theorem lc_readF {K : PySem.W.Frag} {mi : Env → T (List D)} {tg : Tg} {vs : List Nat} {tt : TT} {mc : Env → T Bool} {me : M} (hv : ∀ i ∈ slots tg, i ∈ vs) (ht : TOk K tt mc) {σ : L2.St} {H : Hp} {Q : VK}
    (h : tF K (fun ρ => ((mi ρ).bind fun ds => lcRun (lcTurn tg vs mc me ρ) ds).bind lst?) σ H Q) : tLc (tI K mi) (gOf K tg) tt (tD K me) vs σ H Q := by
  obtain ⟨A, O, ρ, r, w⟩ := h
  have w : (((mi ρ).bind fun ds => lcRun (lcTurn tg vs mc me ρ) ds).bind lst?).wp _ := w
  refine lc_gen hv ht ⟨A, O, ρ, r, T.wp_mono (fun ds q => ?_) (T.wp_bind.mp (T.wp_bind.mp w))⟩
  obtain ⟨hz, q⟩ := wp_ite q
  exact ⟨hz, T.wp_mono (fun ys z => z) (T.wp_bind.mp q)⟩
/-- an assignment to a name, of any value -/
theorem sndSet (G : GOk Z g k cl) {e : E} {i : Nat} {X : Cx} {t v : Expr} {pos : Pos} (c : BoOk g k X) (h1 : chkNm X.N X.env.scope i t = true) (h2 : chkE Z X.N e X.env.scope v = true) (h3 : (noComp v || isFresh e) = true) :
    PS X (.Assign [t] v pos) (tS X.K fun ρ => (ev Z.gs Z.fs cl e ρ).bind fun d => .ret (.nx (ρ.set i (.val d)))) := by
  obtain ⟨n, p, rfl, hi, hl⟩ := nm_parts h1
  cases hn : noComp v with
  | true => exact (ps_val c hi hl (sndE G e X v c.toCxOk h2).pe hn).imp fun _ _ _ q => asg_read q
  | false =>
    rw [hn] at h3
    cases e with
    | lc elt tg it own =>
      obtain ⟨y, t, ii, scope, pp, rfl, q1, q2, q3, q4, q5, q6⟩ := lc_parts G c.toCxOk h2
      refine (ps_lcN (tt := tYes) c hi hl q1 q2 q3 (fun _ _ _ _ _ => pts_nil) q4 q5).imp fun E σ H q => ?_
      exact lc_read q6 (tok_yes X.K) (asg_read q)
    | lcif elt tg it own cc =>
      obtain ⟨y, t, ii, z, scope, pp, rfl, q1, q2, q3, q7, q4, q5, q6⟩ := lcif_parts G c.toCxOk h2
      refine (ps_lcN c hi hl q1 q2 q3 q7 q4 q5).imp fun E σ H q => ?_
      exact lc_read q6 (tok_b X.K _) (asg_read q)
    | lst es => cases v <;> first | (cases hn; done) | (cases h2; done)
    | bin op a b =>
      cases v <;> first | (cases hn; done) | (cases h2; done)
    | _ => exact nomatch h3
/-- a new list, owned -/
theorem sndOwn (G : GOk Z g k cl) {e : E} {i : Nat} {X : Cx} {t v : Expr} {pos : Pos} (c : BoOk g k X) (h1 : chkNm X.N X.env.scope i t = true) (h2 : chkE Z X.N e X.env.scope v = true) (h3 : isFresh e = true) :
    PS X (.Assign [t] v pos) (tS X.K fun ρ => (ev Z.gs Z.fs cl e ρ).bind fun d => (lst? d).bind fun ds => .ret (.nx (ρ.set i (.own ds)))) := by
  obtain ⟨n, p, rfl, hi, hl⟩ := nm_parts h1
  have re : ∀ {E : Ends} {σ : L2.St} {H : Hp} {m : M}, tS X.K (fun ρ => (m ρ).bind fun d => (lst? d).bind fun ds => .ret (.nx (ρ.set i (.own ds)))) E σ H → tS X.K (fun ρ => ((m ρ).bind lst?).bind fun ds => .ret (.nx (ρ.set i (.own ds)))) E σ H := fun {E σ H m} q => by
    obtain ⟨A, O0, N0, H0, ρ, f, w⟩ := q
    refine ⟨A, O0, N0, H0, ρ, f, ?_⟩
    show ((((m ρ).bind lst?).bind fun ds => T.ret (Fl.nx (ρ.set i (.own ds)))).wp (Out A O0 X.K N0 H0 E))
    rw [T.bind_assoc]
    exact w
  cases e with
  | lst es =>
    cases v with
    | List xs lp =>
      obtain ⟨g1, g2⟩ := b2 (show (chkEs Z X.N es X.env.scope xs && decide (lenEs es ≤ sz)) = true from h2)
      refine (ps_val c hi hl (pe_lstF (sndEs G es X xs c.toCxOk g1) fun ρ P w => T.wp_mono (fun ds z => ⟨by rw [z.1]; exact of_decide_eq_true g2, z.2⟩) (evs_len _ _ _ ρ es w)) rfl).imp fun E σ H q => own_read ?_
      obtain ⟨A, O0, N0, H0, ρ, f, w⟩ := q
      refine ⟨A, O0, N0, H0, ρ, f, ?_⟩
      have w : (((evs Z.gs Z.fs cl es ρ).bind fun ds => T.ret (PyData.list ds)).bind fun d => (lst? d).bind fun ds => T.ret (Fl.nx (ρ.set i (.own ds)))).wp (Out A O0 X.K N0 H0 E) := w
      rw [T.bind_assoc] at w
      exact w
    | _ => exact nomatch h2
  | bin op a b =>
    cases op with
    | add =>
      cases v with
      | BinOp y o z bp =>
        obtain ⟨g0, g1, g2⟩ := b3 (show (decide (o = bopOf .add) && chkE Z X.N a X.env.scope y && chkE Z X.N b X.env.scope z) = true from h2)
        obtain rfl : o = .Add := of_decide_eq_true g0
        exact (ps_val c hi hl (pe_addF (sndE G a X y c.toCxOk g1).pe (sndE G b X z c.toCxOk g2).pe) rfl).imp fun E σ H q => own_read (re q)
      | _ => exact nomatch h2
    | _ => exact nomatch h3
  | lc elt tg it own =>
    obtain ⟨y, t, ii, scope, pp, rfl, q1, q2, q3, q4, q5, q6⟩ := lc_parts G c.toCxOk h2
    refine (ps_lcN (tt := tYes) c hi hl q1 q2 q3 (fun _ _ _ _ _ => pts_nil) q4 q5).imp fun E σ H q => ?_
    exact lc_readF q6 (tok_yes X.K) (own_read (re q))
  | lcif elt tg it own cc =>
    obtain ⟨y, t, ii, z, scope, pp, rfl, q1, q2, q3, q7, q4, q5, q6⟩ := lcif_parts G c.toCxOk h2
    refine (ps_lcN c hi hl q1 q2 q3 q7 q4 q5).imp fun E σ H q => ?_
    exact lc_readF q6 (tok_b X.K _) (own_read (re q))
  | _ => exact nomatch h3

end
end Rf

namespace Rf
open PySem PySem.Spec PyProof.Rows L2
variable [Kys]
section
variable {Z : Stat} {N : List Str} {sc : Scope} {x : Stmt}
theorem inv_set {i : Nat} {e : E} (h : chkS Z N (.set i e) sc x = true) : ∃ t v pos, x = .Assign [t] v pos ∧ (chkNm N sc i t && chkE Z N e sc v && (noComp v || isFresh e)) = true := by
  unfold chkS at h
  split at h
  · exact ⟨_, _, _, rfl, h⟩
  · cases h
theorem inv_own {i : Nat} {e : E} (h : chkS Z N (.own i e) sc x = true) : ∃ t v pos, x = .Assign [t] v pos ∧ (chkNm N sc i t && chkE Z N e sc v && isFresh e) = true := by
  unfold chkS at h
  split at h
  · exact ⟨_, _, _, rfl, h⟩
  · cases h
theorem inv_unp {is : List Nat} {e : E} (h : chkS Z N (.unp is e) sc x = true) : ∃ ts kk tp v pos, x = .Assign [.Tuple ts kk tp] v pos ∧ (tgB.nmTs N sc true is ts && chkE Z N e sc v && noTup v) = true := by
  unfold chkS at h
  split at h
  · exact ⟨_, _, _, _, _, rfl, h⟩
  · cases h
theorem inv_par {i j : Nat} {a b : E} (h : chkS Z N (.par i j a b) sc x = true) : ∃ n p n' p' kk tp v v' k2 vp pos, x = .Assign [.Tuple [.Name n p, .Name n' p'] kk tp] (.Tuple [v, v'] k2 vp) pos ∧
    (tgB.nmTs N sc true [i, j] [.Name n p, .Name n' p'] && chkE Z N a sc v && chkE Z N b sc v' && noStar v && noStar v' && (parN sc n n' p p' v v' || parS sc n n' p p' v v')) = true := by
  unfold chkS at h
  split at h
  · exact ⟨_, _, _, _, _, _, _, _, _, _, _, rfl, h⟩
  · cases h
theorem inv_app {i : Nat} {e : E} (h : chkS Z N (.app i e) sc x = true) : ∃ n p a ap y cp pos, x = .Expr (.Call (.Attribute (.Name n p) a ap) [y] [] cp) pos ∧
    (decide (N[i]? = some n) && visB sc n && nmB n && decide (a = "append") && (ap.endLine == cp.line) && chkE Z N e sc y && noStar y) = true := by
  unfold chkS at h
  split at h
  · exact ⟨_, _, _, _, _, _, _, rfl, h⟩
  · cases h
theorem inv_exp {e : E} (h : chkS Z N (.exp e) sc x = true) : ∃ v pos, x = .Expr v pos ∧ (chkE Z N e sc v && noComp v) = true := by
  unfold chkS at h
  split at h
  · exact ⟨_, _, rfl, h⟩
  · cases h
theorem inv_ret {e : E} (h : chkS Z N (.ret e) sc x = true) : ∃ v pos, x = .Return (some v) pos ∧ chkE Z N e sc v = true := by
  unfold chkS at h
  split at h
  · exact ⟨_, _, rfl, h⟩
  · cases h
theorem inv_retN (h : chkS Z N .retN sc x = true) : ∃ pos, x = .Return none pos := by
  unfold chkS at h
  split at h
  · exact ⟨_, rfl⟩
  · cases h
theorem inv_ifs {c : E} {a b : Ss} (h : chkS Z N (.ifs c a b) sc x = true) : ∃ y as bs pos, x = .If y as bs pos ∧ (chkE Z N c sc y && noIte y && chkSs Z N a sc as && chkSs Z N b sc bs) = true := by
  unfold chkS at h
  split at h
  · exact ⟨_, _, _, _, rfl, h⟩
  · cases h
theorem inv_fr {tg : Tg} {it : It} {body : Ss} (h : chkS Z N (.fr tg it body) sc x = true) : ∃ t i bs pos, x = .For t i bs [] pos ∧ (tgB N sc true tg t && chkI Z N it sc i && noSet i && chkSs Z N body sc bs) = true := by
  unfold chkS at h
  split at h
  · exact ⟨_, _, _, _, rfl, h⟩
  · cases h
end

section
variable {g : Gb} {k : Nat} {Z : Stat} {cl : Nat → List D → T D}
mutual
theorem sndS (G : GOk Z g k cl) : ∀ (s : S) (X : Cx) (x : Stmt), BoOk g k X → chkS Z X.N s X.env.scope x = true → PS X x (tS X.K (ex Z.gs Z.fs cl s))
  | .set i e, X, x, c, h => by
    obtain ⟨t, v, pos, rfl, h⟩ := inv_set h
    obtain ⟨h1, h2, h3⟩ := b3 h
    exact sndSet G c h1 h2 h3
  | .own i e, X, x, c, h => by
    obtain ⟨t, v, pos, rfl, h⟩ := inv_own h
    obtain ⟨h1, h2, h3⟩ := b3 h
    exact sndOwn G c h1 h2 h3
  | .frz i, X, x, c, h => by unfold chkS at h; cases h
  | .unp is e, X, x, c, h => by
    obtain ⟨ts, kk, tp, v, pos, rfl, h⟩ := inv_unp h
    obtain ⟨h1, h2, h3⟩ := b3 h
    exact (ps_asg (sndE G e X v c.toCxOk h2).pe (tg_ok (tg := .tp is) (x := .Tuple ts kk tp) (b := true) c.calm c.nd c.own h1) (sole_tup ts kk tp _ _) (stores_of h3 ts kk tp _) rfl).imp fun E σ H q => unp_read q
  | .par i j a b, X, x, c, h => by
    obtain ⟨n, p, n', p', kk, tp, v, v', k2, vp, pos, rfl, h⟩ := inv_par h
    obtain ⟨h1, h2, h3, h4, h5, h6⟩ := b6 h
    have pa : PA X [v, v'] (tCons (tD X.K (ev Z.gs Z.fs cl a)) (tCons (tD X.K (ev Z.gs Z.fs cl b)) tNil)) := pa_cons (sndE G a X v c.toCxOk h2).pe (pa_cons (sndE G b X v' c.toCxOk h3).pe pa_nil (star_of h5 _ _)) (star_of h4 _ _)
    cases hn : parN X.env.scope n n' p p' v v' with
    | true => exact (ps_asg (pe_tup pa) (tg_ok (tg := .tp [i, j]) (x := .Tuple [.Name n p, .Name n' p'] kk tp) (b := true) c.calm c.nd c.own h1) (sole_tup _ kk tp _ _) (stores_none c.kind h4 h5 hn) rfl).imp fun E σ H q => par_tup (d := 0) q
    | false =>
      rw [hn] at h6
      have h6 : parS X.env.scope n n' p p' v v' = true := h6
      have e2 := stores_some (X := X) (kt := kk) (pt := tp) (k2 := k2) (pt2 := vp) c.kind h4 h5 h6
      obtain ⟨g1, g2⟩ := b2 (show (tgB.nmT X.N X.env.scope true i (.Name n p) && tgB.nmTs X.N X.env.scope true [j] [.Name n' p']) = true from h1)
      obtain ⟨g2, _⟩ := b2 (show (tgB.nmT X.N X.env.scope true j (.Name n' p') && tgB.nmTs X.N X.env.scope true [] []) = true from g2)
      obtain ⟨g1, _⟩ := b2 (show (decide (X.N[i]? = some n) && _) = true from g1)
      obtain ⟨g2, _⟩ := b2 (show (decide (X.N[j]? = some n') && _) = true from g2)
      unfold parS at h6
      simp only [Bool.and_eq_true, decide_eq_true_eq] at h6
      refine (ps_par c.calm c.nd (of_decide_eq_true g1) (of_decide_eq_true g2) (fun z => ?_) h6.1.1.1.1.1 h6.1.1.1.1.2 pa e2 (sole_tup _ kk tp _ _)).imp fun E σ H q => par_read q
      have q1 := of_decide_eq_true g1
      have q2 := of_decide_eq_true g2
      rw [z, q2] at q1
      exact h6.1.1.2 (Option.some.inj q1).symm
  | .app i e, X, x, c, h => by
    obtain ⟨n, p, a, ap, y, cp, pos, rfl, h⟩ := inv_app h
    obtain ⟨h0, h7⟩ := b2 h
    obtain ⟨h1, h2, h3, h4, h5, h6⟩ := b6 h0
    obtain ⟨n1, n2, _⟩ := nmB_ok h3
    obtain rfl : a = "append" := of_decide_eq_true h4
    have st := star_of h7 [] X.env
    refine (ps_expr (pe_bm PySem.F.plainAttrs_list PySem.F.slot_list_append PySem.F.type_list_append mt_append (pe_var (of_decide_eq_true h1) (visB_ok h2) n1 n2) (pa_cons (sndE G e X y c.toCxOk h6).pe pa_nil st) rfl (by rw [st]; rfl) h5 st rfl) rfl).imp fun E σ H q => app_read q
  | .exp e, X, x, c, h => by
    obtain ⟨v, pos, rfl, h⟩ := inv_exp h
    obtain ⟨h1, h2⟩ := b2 h
    exact (ps_expr (sndE G e X v c.toCxOk h1).pe (swaps_of h2 _ _ _)).imp fun E σ H q => exp_read q
  | .ret e, X, x, c, h => by
    obtain ⟨v, pos, rfl, h⟩ := inv_ret h
    exact (ps_ret (sndE G e X v c.toCxOk h).pe).imp fun E σ H q => ret_read q
  | .retN, X, x, c, h => by
    obtain ⟨pos, rfl⟩ := inv_retN h
    refine ps_retN.imp fun E σ H q => ?_
    obtain ⟨A, O0, N0, H0, ρ, ⟨N, r, st, _, _, _⟩, w⟩ := q
    exact w .non H N .non st (fun b h => r.npr b (.inr h)) r.si
  | .ifs cc a b, X, x, c, h => by
    obtain ⟨y, as, bs, pos, rfl, h⟩ := inv_ifs h
    obtain ⟨h1, h2, h3, h4⟩ := b4 h
    exact (ps_if ((sndE G cc X y c.toCxOk h1).pt h2) (sndSs G a X as c h3) (sndSs G b X bs c h4)).imp fun E σ H q => if_read q
  | .fr tg it body, X, x, c, h => by
    obtain ⟨t, i, bs, pos, rfl, h⟩ := inv_fr h
    obtain ⟨h1, h2, h3, h4⟩ := b4 h
    exact (ps_for (by rw [c.xe]; exact PassesOwn.never) c.calm (sndI G it X t i c.toCxOk h2) (tg_ok c.calm c.nd c.own h1) (sndSs G body X bs c h4) (fold_of h3 X.env)).imp fun E σ H q => for_read q
  | .never, X, x, c, h => ps_never.imp fun E σ H q => by
      obtain ⟨A, O0, N0, H0, ρ, f, w⟩ := q
      exact w
theorem sndSs (G : GOk Z g k cl) : ∀ (ss : Ss) (X : Cx) (xs : List Stmt), BoOk g k X → chkSs Z X.N ss X.env.scope xs = true → PSs X xs (tS X.K (exs Z.gs Z.fs cl ss))
  | .nil, X, xs, c, h => by
    cases xs with
    | nil =>
      refine pss_nil.imp fun E σ H q => ?_
      obtain ⟨A, O0, N0, H0, ρ, f, w⟩ := q
      exact w σ H f
    | cons _ _ => exact nomatch h
  | .cons s r, X, xs, c, h => by
    have plain : ∀ (hs : ∀ i, s ≠ .frz i), PSs X xs (tS X.K (exs Z.gs Z.fs cl (.cons s r))) := fun hs => by
      cases xs with
      | nil => cases s <;> first | (cases h; done) | exact absurd rfl (hs _)
      | cons x xs =>
        have h : (chkS Z X.N s X.env.scope x && chkSs Z X.N r X.env.scope xs) = true := by cases s <;> first | exact h | exact absurd rfl (hs _)
        obtain ⟨h1, h2⟩ := b2 h
        exact (pss_cons (sndS G s X x c h1) (sndSs G r X xs c h2)).imp fun E σ H q => seq_read q
    cases s with
    | frz i =>
      refine (sndSs G r X xs c (show chkSs Z X.N r X.env.scope xs = true from h)).imp fun E σ H q => ?_
      obtain ⟨A, O0, N0, H0, ρ, f, w⟩ := q
      have w : ((match ρ[i]? with
        | some (.own ds) => T.ret (Fl.nx (ρ.set i (.val (.list ds))))
        | some (.val _) => T.ret (Fl.nx ρ)
        | _ => .stuck).bind fun fl => match fl with
        | .nx ρ' => exs Z.gs Z.fs cl r ρ'
        | fl => .ret fl).wp _ := w
      cases e : ρ[i]? with
      | none => rw [e] at w; exact w.elim
      | some sv =>
        rw [e] at w
        cases sv with
        | no => exact w.elim
        | val _ => exact ⟨A, O0, N0, H0, _, f, w⟩
        | own ds => exact ⟨A, O0, N0, H0, _, frz_fm f e, w⟩
    | _ => exact plain fun i z => nomatch z
end
end
end Rf

namespace Rf
open PySem PySem.Spec PyProof.Rows L2
variable [Kys]

/-- the def at f does m, where nothing is being shown -/
structure Gn (g : Gb) (k : Nat) (f : Addr) (fd : FuncData) (ps : List Str) (m : List D → T D) : Prop where
  run : ∀ (A : Around) (outer : List PySem.Env) (s : Shared) (H : Hp) (args : Args) (us : List Value) (vs : List V) (Q : VK), Room k A → A.guards = some [] → Env0 g.P g.w g.K g.mg g.base A outer s H →
    BindsTo s fd args (ps.zip us) → Vals vs us → vs.length = ps.length → (∃ Am O ds, Lay Am O H ∧ RDs Am O g.K H vs ds ∧ (m ds).wp (Beh Am O g.K H Q)) →
    codeAny (model g.P g.w) A (.call (.ref f) args) (CR CX0 outer g.P g.w H s Q E0) s

/-- the parameters' values, as a form puts them -/
inductive PickR (K : PySem.W.Frag) (us ws : List Value) : List Src → List Value → Prop
  | nil : PickR K us ws [] []
  | pos {i : Nat} {u : Value} {r : List Src} {rs : List Value} : us[i]? = some u → PickR K us ws r rs → PickR K us ws (.pos i :: r) (u :: rs)
  | kw {j : Nat} {u : Value} {r : List Src} {rs : List Value} : ws[j]? = some u → PickR K us ws r rs → PickR K us ws (.kw j :: r) (u :: rs)
  | dfl {d : D} {v : V} {u : Value} {r : List Src} {rs : List Value} : RelV v u → (∀ A O H, RD A O K H v d) → PickR K us ws r rs → PickR K us ws (.dfl d :: r) (u :: rs)
def BindF (K : PySem.W.Frag) (fd : FuncData) (ps : List Str) (F : Form) : Prop :=
  ∀ (s : Shared) (us ws : List Value), K.In s.heap → us.length = F.np → ws.length = F.ks.length → ∃ us', PickR K us ws F.ps us' ∧ us'.length = ps.length ∧ BindsTo s fd ⟨us, F.ks.zip ws⟩ (ps.zip us')
theorem vals_get {vs : List V} {us : List Value} {i : Nat} {u : Value} (r : Vals vs us) (h : us[i]? = some u) : ∃ v, vs[i]? = some v ∧ RelV v u := by
  induction r generalizing i with
  | nil => simp at h
  | cons r0 t ih =>
    cases i with
    | zero =>
      simp at h
      subst h
      exact ⟨_, rfl, r0⟩
    | succ i => simpa using ih (by simpa using h)
theorem pick_ok {A : Amb} {O : Addr → Prop} {K : PySem.W.Frag} {H : Hp} {vs zs : List V} {us ws : List Value} {dvs dzs : List D} (rv : Vals vs us) (rz : Vals zs ws) (dv : RDs A O K H vs dvs) (dz : RDs A O K H zs dzs) :
    ∀ {ss : List Src} {us' : List Value} {ds : List D}, PickR K us ws ss us' → pickAll dvs dzs ss = some ds → ∃ vs', Vals vs' us' ∧ RDs A O K H vs' ds := by
  intro ss us' ds p
  induction p generalizing ds with
  | nil =>
    intro e
    have e : some [] = some ds := e
    cases e
    exact ⟨[], .nil, .nil⟩
  | @pos i u r rs h1 _ ih =>
    intro e
    obtain ⟨d, e1, e2⟩ := Option.bind_eq_some_iff.mp (show (dvs[i]?.bind fun d => (pickAll dvs dzs r).map (d :: ·)) = some ds from e)
    obtain ⟨es, e3, rfl⟩ := Option.map_eq_some_iff.mp e2
    obtain ⟨v, g1, g2⟩ := vals_get rv h1
    obtain ⟨d', g3, g4⟩ := dv.getV g1
    rw [e1] at g3
    cases g3
    obtain ⟨vs', q1, q2⟩ := ih e3
    exact ⟨v :: vs', .cons g2 q1, .cons g4 q2⟩
  | @kw i u r rs h1 _ ih =>
    intro e
    obtain ⟨d, e1, e2⟩ := Option.bind_eq_some_iff.mp (show (dzs[i]?.bind fun d => (pickAll dvs dzs r).map (d :: ·)) = some ds from e)
    obtain ⟨es, e3, rfl⟩ := Option.map_eq_some_iff.mp e2
    obtain ⟨v, g1, g2⟩ := vals_get rz h1
    obtain ⟨d', g3, g4⟩ := dz.getV g1
    rw [e1] at g3
    cases g3
    obtain ⟨vs', q1, q2⟩ := ih e3
    exact ⟨v :: vs', .cons g2 q1, .cons g4 q2⟩
  | @dfl d v u r rs h1 h2 _ ih =>
    intro e
    obtain ⟨es, e3, rfl⟩ := Option.map_eq_some_iff.mp (show (pickAll dvs dzs r).map (d :: ·) = some ds from e)
    obtain ⟨vs', q1, q2⟩ := ih e3
    exact ⟨v :: vs', .cons h1 q1, .cons (h2 A O H) q2⟩
theorem vals_len {vs : List V} {us : List Value} (r : Vals vs us) : vs.length = us.length := Vals.length r

/-- a call by its def -/
theorem callF_of {g : Gb} {k : Nat} {X : Cx} {f : Addr} {fd : FuncData} {ps : List Str} {F : Form} {m : List D → T D} (c : CxOk g k X) (n : Gn g k f fd ps m) (b : BindF g.K fd ps F) : CallF X f F m := by
  intro pins s σ H vs zs us ws Q I rv rz h
  obtain ⟨A, O, dvs, dzs, ds, l, dv, dz, l1, l2, e, w⟩ := h
  have KX : g.K.In s.heap := by rw [← c.K]; exact I.kIn
  obtain ⟨us', p, pl, bt⟩ := b s us ws KX (by rw [← vals_len rv, dv.length]; exact l1) (by rw [← vals_len rz, dz.length]; exact l2)
  rw [c.K] at dv dz w
  obtain ⟨vs', q1, q2⟩ := pick_ok rv rz dv dz p e
  have e0 : Env0 g.P g.w g.K g.mg g.base X.A X.stack s H := by
    have z := I.env0
    rw [c.prog, c.w, c.K, c.mg, c.base] at z
    exact z
  have run := n.run X.A X.stack s H ⟨us, F.ks.zip ws⟩ us' vs' Q c.room c.grd e0 bt q1 (by rw [vals_len q1]; exact pl) ⟨A, O, ds, l, q2, w⟩
  rw [← c.prog, ← c.w] at run
  refine wpAny_call (codeAny_mono run fun r s' hq => ?_)
  cases r with
  | error e => exact False.elim hq
  | ok fl =>
    cases fl with
    | ret u => exact I.after hq
    | next => exact False.elim hq
    | brk => exact False.elim hq
    | cont => exact False.elim hq

theorem enter_get {ns : Nat} {ds : List D} {i : Nat} {sv : SV} (h : (enter ns ds)[i]? = some sv) : sv = .no ∨ ∃ d, ds[i]? = some d ∧ sv = .val d := by
  unfold enter at h
  by_cases hi : i < ds.length
  · rw [List.getElem?_append_left (by simpa using hi), List.getElem?_map] at h
    obtain ⟨d, e, rfl⟩ := Option.map_eq_some_iff.mp h
    exact .inr ⟨d, e, rfl⟩
  · rw [List.getElem?_append_right (by simpa using hi), List.getElem?_replicate] at h
    split at h
    · cases h; exact .inl rfl
    · cases h
theorem start_get {N : List Str} {vs : List V} {i : Nat} {v : V} (h : vs[i]? = some v) : (L2.start N vs)[i]? = some (some v) := by
  unfold L2.start
  have hi : i < vs.length := (List.getElem?_eq_some_iff.mp h).1
  rw [List.getElem?_append_left (by simpa using hi), List.getElem?_map, h]
  rfl
theorem start_rel {A : Amb} {O : Addr → Prop} {K : PySem.W.Frag} {H : Hp} {N : List Str} {vs : List V} {ds : List D} (l : Lay A O H) (r : RDs A O K H vs ds) (hl : ds.length ≤ N.length) : Rel A O K (enter N.length ds) (L2.start N vs) H where
  len := by
    unfold enter L2.start
    simp only [List.length_append, List.length_map, List.length_replicate]
    rw [r.length]
  val := fun i d e => by
    rcases enter_get e with z | ⟨d', e', z⟩
    · cases z
    · cases z
      obtain ⟨v, e1, rd⟩ := r.get e'
      exact ⟨v, start_get e1, rd⟩
  own := fun i es e => by
    rcases enter_get e with z | ⟨d', e', z⟩ <;> cases z
  uniq := fun i j es fs a e _ _ _ => by
    rcases enter_get e with z | ⟨d', e', z⟩ <;> cases z
  trk := l.trk
  npr := l.npr
  si := l.si

/-- a def by its body -/
theorem gn_of {g : Gb} {k : Nat} {Z : Stat} {cl : Nat → List D → T D} {f : Addr} {fd : FuncData} {x qual : Str} {params : Arguments} {body : List Stmt} {scope : Scope} {dvs : List V} {kws : List (Str × V)} {N ps : List Str} {bd : Ss} {ns : Nat}
    (F : FunD g.K x qual params body scope dvs kws f fd) (S : FnScope N ps scope) (hns : N.length = ns) (ck : chkSs Z N bd scope body = true) (G : GOk Z g k cl) :
    Gn g (k + 1) f fd ps fun ds => if ds.length = ps.length ∧ ps.length ≤ ns then (exs Z.gs Z.fs cl bd (enter ns ds)).bind outOf else .stuck := by
  obtain ⟨oc, od, dV, kV, doc, pm, an, cdv, ct, osl, rfl, lk, hcd, _, _⟩ := F.ex
  subst hns
  refine ⟨fun A outer s H args us vs Q hr hG e0 hb r hl h => ?_⟩
  obtain ⟨Am, O, ds, l, rds, w⟩ := h
  obtain ⟨⟨l1, l2⟩, w⟩ := wp_ite w
  have KX : g.K.In s.heap := e0.mod.kin.keeps fun b o e => (e0.bs b o e).1
  have lim : s.heap.NoLimit := e0.mod.nolimit.keeps fun b o e => (e0.bs b o e).1
  have hkind : ∀ y ∈ ps.zip us, scope.names.lookup y.1 = some .local ∨ (scope.names.lookup y.1 = some .cell ∧ ((cellsFrom (s.heap.objs.size + 1) scope.names []).lookup y.1).isSome = true) := fun y hy => by
    obtain ⟨n, v⟩ := y
    rcases S.par n (List.of_mem_zip hy).1 with q | q
    · exact .inl q
    · exact .inr ⟨q, PySem.W.cellsFrom_some _ _ _ (.inl q)⟩
  refine codeAny_call_function hr.depth (KX _ _ lk) rfl S.co S.gen rfl (PySem.W.codeRec_of KX hcd) (hb _ _ _ _ ?_)
  refine wpAny_newFunctionEnv_cells S.kind hkind fun env he s1 y => ?_
  subst he
  refine ⟨lim.keeps y.toInCall.keep, codeAny_func ?_⟩
  have I0 : L2.Inv (cxOf CX0 g.P g.w g.K g.mg g.base N qual scope f cdv A outer s H E0) [] (L2.start N vs) H s1 := inv_start S hr.hd e0 hl r y
  have I := I0.wish fun _ _ => False
  have bo : BoOk g k (cxOf CX0 g.P g.w g.K g.mg g.base N qual scope f cdv A outer s H E0).nox := ⟨⟨rfl, rfl, rfl, rfl, rfl, rfl, S.nd, hr.deeper _, hG⟩, rfl, rfl, S.kind⟩
  have P := sndSs G bd _ body bo ck
  have rel : Rel Am O g.K (enter N.length ds) (L2.start N vs) H := start_rel l rds (by rw [l1]; exact l2)
  have rd : tS g.K (exs Z.gs Z.fs cl bd) { nx := fun _ H' => Q .non H', rt := Q } (L2.start N vs) H := by
    refine ⟨Am, O, fun _ => False, H, _, ⟨fun _ => False, by rw [un_no]; exact rel, Stp.refl, fun i es a e _ => ?_, fun _ z => z.elim, fun _ z => z.elim⟩, T.wp_mono (fun fl z => ?_) (T.wp_bind.mp w)⟩
    · rcases enter_get e with z | ⟨d', e', z⟩ <;> cases z
    · cases fl with
      | nx ρ =>
        intro σ' H' f'
        obtain ⟨N', r', st, _, _, _⟩ := f'
        exact z .non H' .non (fun a o e n => st.keep a o e (fun q => q) n) r'.si
      | rt d =>
        intro v H' N' rd' st np si
        exact z v H' (rd'.less fun a h => .inl h) (fun a o e n => st.keep a o e (fun q => q) n) si
      | bk ρ => exact z.elim
      | ct ρ => exact z.elim
  refine wpAny_mono (P.run [] s1 (L2.start N vs) H _ I rd) (fun fl s' hs => ?_) fun e s' hs => hs.elim
  have fin : ∀ {σ' : L2.St} {H' : Hp} {v : V} {u : Value}, L2.Inv (cxOf CX0 g.P g.w g.K g.mg g.base N qual scope f cdv A outer s H E0).nox [] σ' H' s' → RelV v u → Q v H' → CE outer g.P g.w H s Q u s' :=
    fun {σ' H' v u} J rv q => ⟨v, H', J.os, J.bare, J.base, J.hok, rv, q⟩
  cases fl with
  | ret u =>
    obtain ⟨v, σ', H', J, rv, q⟩ := hs
    exact fin J rv q
  | next =>
    obtain ⟨σ', H', J, q⟩ := hs
    exact fin (v := V.non) (u := Value.none) J rfl q
  | brk =>
    obtain ⟨_, _, _, q⟩ := hs
    exact False.elim q
  | cont =>
    obtain ⟨_, _, _, q⟩ := hs
    exact False.elim q

/-- what is known of a def of the program -/
def DefOk (g : Gb) (Z : Stat) (df : List Def) (i : Nat) (x : Str) (d : Def) : Prop :=
  ∃ f fd ps, g.mg x = some (.ref f) ∧ PySem.W.keepIn g.K (.ref f) = true ∧ (∀ F ∈ Z.fs, F.f = i → BindF g.K fd ps F) ∧
    ∀ k, GOk Z g k (runK Z.gs Z.fs df k) → Gn g (k + 1) f fd ps (runK Z.gs Z.fs df (k + 1) i)
structure Prg (g : Gb) (Z : Stat) (df : List Def) : Prop where
  blt : ∀ x ∈ bltNames, g.mg x = none
  glo : ∀ (i : Nat) (x : Str) (d : D), Z.gn[i]? = some x → Z.gs[i]? = some d → ∃ v u, g.mg x = some u ∧ RelV v u ∧ ∀ A O H, RD A O g.K H v d
  len : Z.dn.length = df.length
  defs : ∀ (i : Nat) (x : Str) (d : Def), Z.dn[i]? = some x → df[i]? = some d → DefOk g Z df i x d
/-- the whole program runs as the interpreter says -/
theorem prg_ok {g : Gb} {Z : Stat} {df : List Def} (p : Prg g Z df) : ∀ k, GOk Z g k (runK Z.gs Z.fs df k)
  | 0 => ⟨p.blt, p.glo, fun c F x hF hx => by
      obtain ⟨hi, _⟩ := List.getElem?_eq_some_iff.mp hx
      rw [p.len] at hi
      obtain ⟨f, fd, ps, hm, kp, _⟩ := p.defs F.f x df[F.f] hx (List.getElem?_eq_getElem hi)
      refine ⟨f, hm, kp, fun X _ pins s σ H vs zs us ws Q I rv rz h => ?_⟩
      obtain ⟨A, O, dvs, dzs, ds, l, dv, dz, l1, l2, e, w⟩ := h
      exact w.elim⟩
  | k + 1 => ⟨p.blt, p.glo, fun c F x hF hx => by
      obtain ⟨hi, _⟩ := List.getElem?_eq_some_iff.mp hx
      rw [p.len] at hi
      obtain ⟨f, fd, ps, hm, kp, hb, hn⟩ := p.defs F.f x df[F.f] hx (List.getElem?_eq_getElem hi)
      exact ⟨f, hm, kp, fun X c => callF_of c (hn k (prg_ok p k)) (hb F (List.mem_of_getElem? hF) rfl)⟩⟩
/-- a def by its body, as the interpreter has it -/
theorem gn_code {g : Gb} {k : Nat} {Z : Stat} {df : List Def} {f : Addr} {fd : FuncData} {x qual : Str} {params : Arguments} {body : List Stmt} {scope : Scope} {dvs : List V} {kws : List (Str × V)} {N ps : List Str} {bd : Ss} {i ns : Nat}
    (F : FunD g.K x qual params body scope dvs kws f fd) (S : FnScope N ps scope) (hns : N.length = ns) (ck : chkSs Z N bd scope body = true) (hd : df[i]? = some (.code ps.length ns bd)) (G : GOk Z g k (runK Z.gs Z.fs df k)) :
    Gn g (k + 1) f fd ps (runK Z.gs Z.fs df (k + 1) i) := by
  have h := gn_of F S hns ck G
  refine ⟨fun A outer s H args us vs Q hr hG e0 hb r hl q => h.run A outer s H args us vs Q hr hG e0 hb r hl ?_⟩
  obtain ⟨Am, O, ds, l, rds, w⟩ := q
  refine ⟨Am, O, ds, l, rds, ?_⟩
  unfold runK at w
  rw [hd] at w
  exact w
end Rf

namespace Rf
open PySem PySem.Spec PyProof.Rows L2
variable [Kys]

section
variable {P : Program} {w : World} {K : PySem.W.Frag} {mg mb : Str → Option Value} {fa a : Addr} {s1 : Shared} {vs : List Value} {ns : List Int}
/-- what the top has left stands below a heap that tracks the script alone -/
theorem env_law {H : Hp} (KX : K.In s1.heap) (hns : s1.heap.Ns mainGlobals mg) (hb : s1.heap.Ns builtinsNs mb) (hbb : ∀ x : Str, x ≠ "__name__" → mb x = bootBuiltins x) (hlim : s1.heap.NoLimit) (hg : s1.gens = #[])
    (ha : s1.heap.get? a = some { cls := .type "list", data := .seq vs.toArray }) (hok : HOk P w H s1.heap) (hA : ∀ b, H b ≠ none → b = a) (hK : H a ≠ none → K.lookup a = none) :
    K.In (hidT s1.heap H) ∧ (hidT s1.heap H).Ns mainGlobals mg ∧ Env0 P w K mg (hidT s1.heap H) callerA [] s1 H := by
  have free : ∀ {b : Addr}, b ≠ a → H b = none := fun {b} n => by
    cases q : H b with
    | none => rfl
    | some u => exact absurd (hA b (by rw [q]; exact fun z => nomatch z)) n
  have nsK : ∀ {b : Addr} {m : Str → Option Value}, s1.heap.Ns b m → (hidT s1.heap H).Ns b m := fun {b m} h => by
    obtain ⟨o, es, ep, e, d, r⟩ := h
    refine ⟨o, es, ep, hidT_get e (free fun z => ?_), d, r⟩
    rw [z, ha] at e
    cases e
    cases (show Data.seq vs.toArray _ = Data.dict es ep from d)
  have kin : K.In (hidT s1.heap H) := fun b o e => by
    refine hidT_get (KX b o e) ?_
    cases q : H b with
    | none => rfl
    | some u =>
      have hne : H b ≠ none := by rw [q]; exact fun z => nomatch z
      have z := hA b hne
      subst z
      rw [hK hne] at e
      cases e
  refine ⟨kin, nsK hns, ⟨rfl, ⟨kin, nsK hns, ⟨mb, nsK hb, hbb⟩, ?_⟩, fun b o e => of_hidT e, Nat.le_of_eq (hidT_size _ _), trivial, fun b z => ?_, hok, .of_eq hg⟩⟩
  · obtain ⟨mc, h1, h2⟩ := hlim
    exact ⟨mc, nsK h1, h2⟩
  · exact absurd (show b ∈ ([] : List Addr) from z) (by simp)
theorem law_end (KX : K.In s1.heap) (hns : s1.heap.Ns mainGlobals mg) (hb : s1.heap.Ns builtinsNs mb) (hbb : ∀ x : Str, x ≠ "__name__" → mb x = bootBuiltins x) (hlim : s1.heap.NoLimit) (hg : s1.gens = #[])
    (ha : s1.heap.get? a = some { cls := .type "list", data := .seq vs.toArray }) (hi : IntsAre vs ns) (hl : ns.length ≤ sizeLine)
    (L : ∀ (base : Heap) (H : Hp), K.In base → base.Ns mainGlobals mg → SqL K H a (ns.map V.int) → Env0 P w K mg base callerA [] s1 H → codeAny (model P w) callerA (.call (.ref fa) ⟨[.ref a], []⟩) (CR CX0 [] P w H s1 (fun v _ => v = .bl true) E0) s1) :
    codeAny (model P w) callerA (.call (.ref fa) ⟨[.ref a], []⟩) (fun r s' => r = .ok (.ret (.bool true)) ∧ OldK s1.heap s'.heap ∧ s'.os = s1.os ∧ AllBare s'.gens) s1 := by
  have rv := vals_ints hi
  have ending : ∀ H : Hp, Only H → SqL K H a (ns.map V.int) → HOk P w H s1.heap → (∀ b, H b ≠ none → b = a) → (H a ≠ none → K.lookup a = none) →
      codeAny (model P w) callerA (.call (.ref fa) ⟨[.ref a], []⟩) (fun r s' => r = .ok (.ret (.bool true)) ∧ OldK s1.heap s'.heap ∧ s'.os = s1.os ∧ AllBare s'.gens) s1 := by
    intro H hO hS hok hA hK
    obtain ⟨e1, e2, e3⟩ := env_law KX hns hb hbb hlim hg ha hok hA hK
    refine codeAny_mono (L _ H e1 e2 hS e3) fun r s' h => ?_
    match r, h with
    | .ok (.ret u), h =>
      obtain ⟨v, H', os, bare, un', hok', r', q⟩ := h
      obtain rfl : v = .bl true := q
      obtain rfl : u = Value.bool true := r'
      refine ⟨rfl, OldK.of_keep fun b o e => ?_, os, bare⟩
      rcases hO b with z | ⟨ob, xs, z⟩
      · exact un'.keep b o e z (fun y => absurd (show b ∈ ([] : List Addr) from y) (by simp)) (by simp)
      · have y1 := (hok b _ z).1
        have y2 := (hok' b _ (un'.frzs b ob _ z)).1
        rw [e] at y1
        cases y1
        exact y2
  have hlen : (ns.map V.int).length ≤ sizeLine := by rw [List.length_map]; exact hl
  cases hk : K.lookup a with
  | some o =>
    have e := KX a o hk
    rw [ha] at e
    cases e
    refine ending (fun _ => none) (fun _ => .inl rfl) (.inr ⟨_, vs.toArray, _, hk, rfl, rfl, rfl, ?_, by simpa using rv⟩) (fun b u z => nomatch (show (none : Option HO) = some u from z)) (fun b z => absurd rfl z) (fun z => absurd rfl z)
    rw [List.size_toArray, hi.length]; exact hl
  | none =>
    let ob : Obj := { cls := .type "list", data := .seq vs.toArray }
    have at_a : (fun b : Addr => if b = a then some (HO.frz ob (.lst (ns.map V.int))) else none) a = some (HO.frz ob (.lst (ns.map V.int))) := if_pos rfl
    refine ending (fun b => if b = a then some (.frz ob (.lst (ns.map V.int))) else none) (fun b => ?_) (.inl (.inr ⟨ob, at_a⟩)) (fun b u z => ?_) (fun b z => Classical.byContradiction fun n => z (if_neg n)) fun _ => hk
    · by_cases n : b = a
      · exact .inr ⟨ob, _, if_pos n⟩
      · exact .inl (if_neg n)
    · by_cases n : b = a
      · have z' : some (HO.frz ob (.lst (ns.map V.int))) = some u := (if_pos n).symm.trans z
        cases z'
        subst n
        exact ⟨ha, hlen, vs, _, rv, ha⟩
      · exact nomatch (show (none : Option HO) = some u from (if_neg n).symm.trans z)
end
/-- the end of a law's proof, from the call of its def -/
theorem walk_law {l : PySem.W.OpenLaw} {n : Nat} {q : Program} {loose : List Str} {XP : (Str → Option Value) → Heap → Prop} {YP : World → Heap → Prop} {d : DefRec}
    (hn : l.most = some n) (hn2 : n ≤ sizeLine) (hdf : d.params.defaults = [])
    (F : ∀ (w : World) (mg : Str → Option Value) (fa : Addr) (h : Heap), YP w h → h.Ns mainGlobals mg → mg d.name = some (.ref fa) → ∃ K : PySem.W.Frag, K.In h ∧
      ∀ (base : Heap) (H : Hp) (a : Addr) (ns : List Int) (s : Shared), K.In base → base.Ns mainGlobals mg → ns.length ≤ n → SqL K H a (ns.map V.int) → Env0 l.prog w K mg base callerA [] s H →
        codeAny (model l.prog w) callerA (.call (.ref fa) ⟨[.ref a], []⟩) (CR CX0 [] l.prog w H s (fun v _ => v = .bl true) E0) s) :
    PySem.W.WalkO q loose XP YP l.row.toRowW d [] (fun f vs => PySem.call f vs) := by
  refine Att.attach_call hn hdf fun w s0 s1 mg mb fa o pm cd doc a vs ns G Y ho hd hcd hmg hobj hints hlen hg => ?_
  obtain ⟨K, KX, R⟩ := F w mg fa _ Y G.T.g hmg
  exact law_end KX G.T.g G.T.b G.T.builtins G.T.nolimit hg hobj hints (Nat.le_trans hlen hn2) fun base H k1 k2 hS e0 => R base H a ns s1 k1 k2 hlen hS e0
/-- a promise of the layer, proved by hand, as one of ours -/
theorem gn_fn {g : Gb} {k : Nat} {f : Addr} {fd : FuncData} {ps : List Str} {sp : Sp} {m : List D → T D} (h : FnOk g.P g.w g.K g.mg g.base CX0 k f fd ps sp)
    (hs : ∀ (Am : Amb) (O : Addr → Prop) (ds : List D) (vs : List V) (H : Hp) (Q : VK), Lay Am O H → RDs Am O g.K H vs ds → (m ds).wp (Beh Am O g.K H Q) → sp vs H Q E0) : Gn g k f fd ps m :=
  ⟨fun A outer s H args us vs Q hr _ e0 hb r _ q => by
    obtain ⟨Am, O, ds, l, rds, w⟩ := q
    exact h.run A outer s H args us vs Q E0 hr e0 hb r (hs Am O ds vs H Q l rds w)⟩
end Rf

namespace Rf
open PySem PySem.Spec PyProof.Rows L2
variable [Kys]

theorem ky_ne {a b c d : Str} (h : [a, b, c, d].Nodup) : a ≠ b ∧ a ≠ c ∧ a ≠ d ∧ b ≠ c ∧ b ≠ d ∧ c ≠ d := by
  simp at h
  exact ⟨h.1.1, h.1.2.1, h.1.2.2, h.2.1.1, h.2.1.2, h.2.2⟩
abbrev tKy (x : Str) : TE := tC (.str x)
section
variable {c : Addr} {t l n : Int}
theorem val_c : valV (kvs4 c t l n) (.inr Kys.kc) = some (.ref c) := valV_pos rfl
theorem val_a : valV (kvs4 c t l n) (.inr Kys.ka) = some (.int t) := by
  obtain ⟨h1, h2, h3, h4, h5, h6⟩ := ky_ne Kys.ne
  unfold kvs4
  rw [valV_neg (by simpa using h1), valV_pos rfl]
theorem val_l : valV (kvs4 c t l n) (.inr Kys.kl) = some (.int l) := by
  obtain ⟨h1, h2, h3, h4, h5, h6⟩ := ky_ne Kys.ne
  unfold kvs4
  rw [valV_neg (by simpa using h2), valV_neg (by simpa using h4), valV_pos rfl]
theorem val_n : valV (kvs4 c t l n) (.inr Kys.kn) = some (.int n) := by
  obtain ⟨h1, h2, h3, h4, h5, h6⟩ := ky_ne Kys.ne
  unfold kvs4
  rw [valV_neg (by simpa using h3), valV_neg (by simpa using h5), valV_neg (by simpa using h6), valV_pos rfl]
theorem put_a (x : Int) : putK (kvs4 c t l n) (.inr Kys.ka) (.int x) = kvs4 c x l n := by
  obtain ⟨h1, h2, h3, h4, h5, h6⟩ := ky_ne Kys.ne
  simp [putK, kvs4, h1, h2, h3, h4, h5, h6, Ne.symm h1, Ne.symm h2, Ne.symm h3, Ne.symm h4, Ne.symm h5, Ne.symm h6]
theorem put_l (x : Int) : putK (kvs4 c t l n) (.inr Kys.kl) (.int x) = kvs4 c t x n := by
  obtain ⟨h1, h2, h3, h4, h5, h6⟩ := ky_ne Kys.ne
  simp [putK, kvs4, h1, h2, h3, h4, h5, h6, Ne.symm h1, Ne.symm h2, Ne.symm h3, Ne.symm h4, Ne.symm h5, Ne.symm h6]
theorem put_n (x : Int) : putK (kvs4 c t l n) (.inr Kys.kn) (.int x) = kvs4 c t l x := by
  obtain ⟨h1, h2, h3, h4, h5, h6⟩ := ky_ne Kys.ne
  simp [putK, kvs4, h1, h2, h3, h4, h5, h6, Ne.symm h1, Ne.symm h2, Ne.symm h3, Ne.symm h4, Ne.symm h5, Ne.symm h6]
end
theorem four_lt : (kvs4 0 0 0 0).length < sizeLine := by
  have e : (kvs4 0 0 0 0).length = 4 := rfl
  rw [e, sizeLine_eq]; decide
/-- what stands at one moment of a draw -/
structure Mo (a c : Addr) (ns : List Int) (H0 H : Hp) (t l n : Int) : Prop where
  d : H a = some (.dK (kvs4 c t l n))
  cells : H c = some (.lst (ns.map V.int))
  sm : ∀ x o, H0 x = some o → x ≠ a → H x = some o
section
variable {a c : Addr} {ns : List Int} {H0 H : Hp} {t l n : Int} {σ : L2.St} {i : Nat} {Q : VK} {D : Ends}
theorem Mo.ne (m : Mo a c ns H0 H t l n) : c ≠ a := fun e => by
  have := m.cells
  rw [e, m.d] at this
  cases this
theorem Mo.put (m : Mo a c ns H0 H t l n) (t' l' n' : Int) : Mo a c ns H0 (upd H a (.dK (kvs4 c t' l' n'))) t' l' n' :=
  ⟨upd_same, by rw [upd_ne m.ne]; exact m.cells, fun x o e q => by rw [upd_ne q]; exact m.sm x o e q⟩
theorem Mo.new (m : Mo a c ns H0 H t l n) {p : Addr} {o : HO} (hp : H p = none) : Mo a c ns H0 (upd H p o) t l n :=
  ⟨by rw [upd_ne (ne_of_none m.d hp)]; exact m.d, by rw [upd_ne (ne_of_none m.cells hp)]; exact m.cells, fun x u e q => by
    have z := m.sm x u e q
    rw [upd_ne (ne_of_none z hp)]; exact z⟩
theorem Mo.get_c (m : Mo a c ns H0 H t l n) (hσ : σ[i]? = some (some (.ref a))) (q : Q (.ref c) H) : tDGet (tVar i) (tKy Kys.kc) σ H Q :=
  ⟨_, hσ, a, _, rfl, by rw [← val_c (c := c) (t := t) (l := l) (n := n)]; exact DGet.k (k := .inr Kys.kc) m.d, q⟩
theorem Mo.get_a (m : Mo a c ns H0 H t l n) (hσ : σ[i]? = some (some (.ref a))) (q : Q (.int t) H) : tDGet (tVar i) (tKy Kys.ka) σ H Q :=
  ⟨_, hσ, a, _, rfl, by rw [← val_a (c := c) (t := t) (l := l) (n := n)]; exact DGet.k (k := .inr Kys.ka) m.d, q⟩
theorem Mo.get_l (m : Mo a c ns H0 H t l n) (hσ : σ[i]? = some (some (.ref a))) (q : Q (.int l) H) : tDGet (tVar i) (tKy Kys.kl) σ H Q :=
  ⟨_, hσ, a, _, rfl, by rw [← val_l (c := c) (t := t) (l := l) (n := n)]; exact DGet.k (k := .inr Kys.kl) m.d, q⟩
theorem Mo.get_n (m : Mo a c ns H0 H t l n) (hσ : σ[i]? = some (some (.ref a))) (q : Q (.int n) H) : tDGet (tVar i) (tKy Kys.kn) σ H Q :=
  ⟨_, hσ, a, _, rfl, by rw [← val_n (c := c) (t := t) (l := l) (n := n)]; exact DGet.k (k := .inr Kys.kn) m.d, q⟩
theorem Mo.put_a (m : Mo a c ns H0 H t l n) (hσ : σ[i]? = some (some (.ref a))) {x : Int} (q : ∀ H', Mo a c ns H0 H' x l n → D.nx σ H') : ∃ v, σ[i]? = some (some v) ∧ ∃ a' H4, v = .ref a' ∧ DPut H a' (.str Kys.ka) (.int x) H4 ∧ D.nx σ H4 :=
  ⟨_, hσ, a, _, rfl, .inl ⟨_, .inr Kys.ka, m.d, rfl, four_lt, rfl⟩, by rw [Rf.put_a]; exact q _ (m.put _ _ _)⟩
theorem Mo.put_l (m : Mo a c ns H0 H t l n) (hσ : σ[i]? = some (some (.ref a))) {x : Int} (q : ∀ H', Mo a c ns H0 H' t x n → D.nx σ H') : ∃ v, σ[i]? = some (some v) ∧ ∃ a' H4, v = .ref a' ∧ DPut H a' (.str Kys.kl) (.int x) H4 ∧ D.nx σ H4 :=
  ⟨_, hσ, a, _, rfl, .inl ⟨_, .inr Kys.kl, m.d, rfl, four_lt, rfl⟩, by rw [Rf.put_l]; exact q _ (m.put _ _ _)⟩
theorem Mo.put_n (m : Mo a c ns H0 H t l n) (hσ : σ[i]? = some (some (.ref a))) {x : Int} (q : ∀ H', Mo a c ns H0 H' t l x → D.nx σ H') : ∃ v, σ[i]? = some (some v) ∧ ∃ a' H4, v = .ref a' ∧ DPut H a' (.str Kys.kn) (.int x) H4 ∧ D.nx σ H4 :=
  ⟨_, hσ, a, _, rfl, .inl ⟨_, .inr Kys.kn, m.d, rfl, four_lt, rfl⟩, by rw [Rf.put_n]; exact q _ (m.put _ _ _)⟩
end

def noAmb : Amb where
  aS := none
  pr := fun _ => False
  SI := fun _ => True
  keep := fun _ _ => trivial
  there := fun _ z => z.elim
  tab := fun _ z => nomatch z
  drw := fun _ z => nomatch z
/-- the heap may have grown -/
def Gw (H H' : Hp) : Prop := ∀ x o, H x = some o → H' x = some o
def rNeE : R2 := fun x y H Q => ∃ (p q : Addr) (ns : List Int), x = .ref p ∧ y = .ref q ∧ H p = some (.lst (ns.map V.int)) ∧ H q = some (.lst []) ∧ ∀ H', Gw H H' → Q (.bl (!ns.isEmpty)) H'
theorem Mo.gw {a c : Addr} {ns : List Int} {H0 H H' : Hp} {t l n : Int} (m : Mo a c ns H0 H t l n) (g : Gw H H') : Mo a c ns H0 H' t l n := ⟨g _ _ m.d, g _ _ m.cells, fun x o e q => g _ _ (m.sm x o e q)⟩
theorem ints_rd {K : PySem.W.Frag} {H : Hp} : ∀ ns : List Int, RDs noAmb (fun _ => False) K H (ns.map V.int) (ns.map PyData.int)
  | [] => .nil
  | n :: r => .cons (.int n) (ints_rd r)
theorem ints_plain : ∀ ns : List Int, PyData.plainAll (ns.map PyData.int) = true
  | [] => rfl
  | n :: r => by simp [PyData.plainAll, PyData.plain, ints_plain r]
theorem ints_depth : ∀ ns : List Int, PyData.depthAll (ns.map PyData.int) ≤ 1
  | [] => by simp [PyData.depthAll]
  | n :: r => by
    have := ints_depth r
    simp [PyData.depthAll, PyData.depth]
    omega
theorem op_neE {X : Cx} (hu : X.A.units + 64 < cLine) : OpR X (compareOp .NotEq) rNeE := by
  intro pins s σ H x y v u Q I rx ry h
  obtain ⟨p, q, ns, rfl, rfl, hp, hq, hQ⟩ := h
  refine op_cmpD .ne hu pins s σ H _ _ v u Q I rx ry ⟨noAmb, fun _ => False, .list (ns.map .int), .list [], ⟨fun _ z => z.elim, trivial, fun _ z => z.elim⟩, .lst hp (fun z => z) (ints_rd ns), .lst hq (fun z => z) .nil, ?_⟩
  have ok : (okd (.list (ns.map PyData.int)) && okd (.list [])) = true := by
    have h1 := ints_plain ns
    have h2 := ints_depth ns
    simp [okd, PyData.plain, PyData.depth, PyData.plainAll, PyData.depthAll, h1]
    omega
  show (if (okd (.list (ns.map PyData.int)) && okd (.list [])) = true then ofB (!PyData.eqv (.list (ns.map PyData.int)) (.list [])) else .stuck).wp (Beh noAmb (fun _ => False) X.K H Q)
  rw [if_pos ok]
  intro v H' rd sm si
  have e : (!PyData.eqv (.list (ns.map PyData.int)) (.list [])) = !ns.isEmpty := by cases ns <;> simp [PyData.eqv, PyData.eqvAll]
  rw [e] at rd
  cases rd
  exact hQ H' fun x o e => sm x o e fun z => by cases (show none = some x from z)

structure Cs where
  c0 : Int
  b : Int
  e : Int
  m1 : Int
  k1 : Int
  z1 : Int
  m2 : Int
  k2 : Int
  z2 : Int
  m3 : Int
  k3 : Int
  m4 : Int
  dv : Int
def Cs.ok (q : Cs) : Bool := decide (0 ≤ q.e ∧ q.e ≤ 1000 ∧ q.b.natAbs < 1000) && decide (0 < q.m1 ∧ 0 < q.m2 ∧ 0 < q.m3 ∧ q.m3 < 2 ^ 62 ∧ q.m2 < 2 ^ 62 ∧ 0 < q.m4 ∧ 0 < q.dv ∧ q.dv < 1000) && decide (-(2 ^ 62) < q.k1 ∧ q.k1 < 2 ^ 62 ∧ -(2 ^ 62) < q.k2 ∧ q.k2 < 2 ^ 62 ∧ -(2 ^ 62) < q.k3 ∧ q.k3 < 2 ^ 62)
abbrev rAddI : R2 := rI0 fun i j => .int (i + j)
abbrev rModI : R2 := rI (fun _ j => 0 < j) fun i j => .int (i % j)
abbrev rDivI : R2 := rI CDiv fun i j => .int (i / j)
abbrev rMulI : R2 := rI CMul fun i j => .int (i * j)
abbrev rPowI : R2 := rI CPow fun i j => .int (i ^ j.toNat)
abbrev rGtI : R2 := rI0 fun i j => .bl (decide (j < i))
abbrev rGeI : R2 := rI0 fun i j => .bl (decide (j ≤ i))
abbrev rLtI : R2 := rI0 fun i j => .bl (decide (i < j))
abbrev rInt : List V → Hp → VK → Prop := fun xs H Q => (∃ i, xs = [.int i] ∧ Q (.int i) H) ∨ ∃ k, xs = [.bl k] ∧ Q (.int (if k then 1 else 0)) H
abbrev tInt (t : TE) : TE := tCB rInt (tCons t tNil)
abbrev tLen (K : PySem.W.Frag) (t : TE) : TE := tCB (fun xs H Q => ∃ x n, xs = [x] ∧ LenV K x H n ∧ Q (.int n) H) (tCons t tNil)
abbrev tI0 (i : Int) : TE := tC (.int i)
def tdS1 : TS := sDPut (tVar 0) (tKy Kys.kn) (tOp rAddI (tDGet (tVar 0) (tKy Kys.kn)) (tI0 1))
def tdS2 : TS := tIfS (tTest (tOp rGtI (tDGet (tVar 0) (tKy Kys.kl)) (tI0 0))) (tSeq (tAsg (tOp rModI (tInt (tDGet (tVar 0) (tKy Kys.kl))) (tVar 1)) (gName 2)) (tSeq (sDPut (tVar 0) (tKy Kys.kl) (tOp rDivI (tDGet (tVar 0) (tKy Kys.kl)) (tVar 1))) (tRet (tVar 2)))) tNext
def tdS3 : TS := tAsg (tDGet (tVar 0) (tKy Kys.ka)) (gName 3)
def tdS4 : TS := sDPut (tVar 0) (tKy Kys.ka) (tOp rAddI (tVar 3) (tI0 1))
def tdS5 (K : PySem.W.Frag) (q : Cs) : TS := tAsg (tIf (tTest (tOp rNeE (tDGet (tVar 0) (tKy Kys.kc)) (tLst tNil))) (tOp (rIxL K) (tDGet (tVar 0) (tKy Kys.kc)) (tOp rModI (tInt (tVar 3)) (tLen K (tDGet (tVar 0) (tKy Kys.kc))))) (tI0 q.c0)) (gName 4)
def tdS6 (K : PySem.W.Frag) (q : Cs) : TS := tIfS (tAnd (tTest (tOp rGeI (tVar 4) (tOp rPowI (tI0 q.b) (tI0 q.e)))) (tTest (tOp rLtI (tVar 3) (tLen K (tDGet (tVar 0) (tKy Kys.kc))))))
  (tSeq (sDPut (tVar 0) (tKy Kys.kl) (tOp rDivI (tVar 4) (tVar 1))) (tRet (tOp rModI (tInt (tVar 4)) (tVar 1)))) tNext
def tdS7 (q : Cs) : TS := tAsg (tOp rModI (tInt (tOp rAddI (tOp rAddI (tOp rModI (tInt (tVar 4)) (tI0 q.m1)) (tOp rMulI (tI0 q.k1) (tDGet (tVar 0) (tKy Kys.kn)))) (tI0 q.z1))) (tI0 q.m2)) (gName 5)
def tdS8 (q : Cs) : TS := tAsg (tOp rModI (tInt (tOp rAddI (tOp rAddI (tOp rMulI (tVar 5) (tVar 5)) (tOp rMulI (tI0 q.k2) (tDGet (tVar 0) (tKy Kys.kn)))) (tI0 q.z2))) (tI0 q.m3)) (gName 5)
def tdS9 (q : Cs) : TS := tRet (tOp rModI (tInt (tOp rDivI (tOp rModI (tInt (tOp rAddI (tOp rMulI (tVar 5) (tVar 5)) (tOp rMulI (tI0 q.k3) (tVar 5)))) (tI0 q.m4)) (tI0 q.dv))) (tVar 1))
def tDraw (K : PySem.W.Frag) (q : Cs) : TS := tSeq tdS1 (tSeq tdS2 (tSeq tdS3 (tSeq tdS4 (tSeq (tdS5 K q) (tSeq (tdS6 K q) (tSeq (tdS7 q) (tSeq (tdS8 q) (tdS9 q))))))))
section
variable {K : PySem.W.Frag} {q : Cs} {a c : Addr} {ns : List Int} {H0 H : Hp} {t l n m : Int} {Q : VK} {N : L2.St → Hp → Prop}
theorem if_b {P Q : Prop} {b : Bool} (h1 : b = true → P) (h2 : b = false → Q) : if b = true then P else Q := by
  cases b with
  | true => exact h1 rfl
  | false => exact h2 rfl
theorem emod_rng {x m : Int} (h : 0 < m) : 0 ≤ x % m ∧ x % m < m := ⟨Int.emod_nonneg _ (by omega), Int.emod_lt_of_pos _ h⟩
abbrev dEnds (N : L2.St → Hp → Prop) (Q : VK) : Ends := { nx := N, rt := Q }
theorem pure_draw (hq : q.ok = true) (h : Mo a c ns H0 H t l n) (m0 : 0 < m) (m1 : m < 1000000) (hQ : ∀ (r : Int) (H' : Hp) (t l n : Int), 0 ≤ r → r < m → Mo a c ns H0 H' t l n → Q (.int r) H') :
    tDraw K q (dEnds N Q) [some (.ref a), some (.int m), none, none, none, none] H := by
  have hq1 := hq
  unfold Cs.ok at hq1
  rw [Bool.and_eq_true, Bool.and_eq_true] at hq1
  obtain ⟨⟨o1, o2⟩, o3⟩ := hq1
  have o1 := of_decide_eq_true o1
  have o2 := of_decide_eq_true o2
  have o3 := of_decide_eq_true o3
  refine h.get_n rfl ⟨_, _, rfl, rfl, ?_⟩
  refine h.put_n (D := { nx := _, rt := Q }) rfl fun H h => ?_
  refine h.get_l rfl ⟨_, _, rfl, rfl, _, rfl, if_b (fun hl => ?_) fun hl => ?_⟩
  · refine h.get_l rfl (.inl ⟨_, rfl, _, rfl, _, _, rfl, rfl, m0, ?_⟩)
    refine h.get_l rfl ⟨_, rfl, _, _, rfl, rfl, ⟨m0, by omega⟩, ?_⟩
    refine h.put_l (D := { nx := _, rt := Q }) rfl fun H h => ?_
    obtain ⟨r1, r2⟩ := emod_rng (x := l) m0
    exact ⟨_, rfl, hQ _ _ _ _ _ r1 r2 h⟩
  · refine h.get_a rfl ?_
    refine ⟨_, rfl, _, _, rfl, rfl, ?_⟩
    refine h.put_a (D := { nx := _, rt := Q }) rfl fun H h => ?_
    have key : ∀ (x : Int) (H : Hp), Mo a c ns H0 H (t + 1) l (n + 1) → tSeq (tdS6 K q) (tSeq (tdS7 q) (tSeq (tdS8 q) (tdS9 q))) (dEnds N Q) [some (.ref a), some (.int m), none, some (.int t), some (.int x), none] H := by
      intro x H h
      have rest : tSeq (tdS7 q) (tSeq (tdS8 q) (tdS9 q)) (dEnds N Q) [some (.ref a), some (.int m), none, some (.int t), some (.int x), none] H := by
        refine ⟨_, rfl, .inl ⟨_, rfl, _, _, rfl, rfl, o2.1, ?_⟩⟩
        refine h.get_n rfl ⟨_, _, rfl, rfl, .inl ⟨by omega, by omega⟩, _, _, rfl, rfl, _, _, rfl, rfl, .inl ⟨_, rfl, _, _, rfl, rfl, o2.2.1, ?_⟩⟩
        obtain ⟨a1, a2⟩ := emod_rng (x := x % q.m1 + q.k1 * (n + 1) + q.z1) o2.2.1
        refine ⟨_, rfl, _, rfl, _, _, rfl, rfl, .inl ⟨by omega, by omega⟩, ?_⟩
        refine h.get_n rfl ⟨_, _, rfl, rfl, .inl ⟨by omega, by omega⟩, _, _, rfl, rfl, _, _, rfl, rfl, .inl ⟨_, rfl, _, _, rfl, rfl, o2.2.2.1, ?_⟩⟩
        obtain ⟨b1, b2⟩ := emod_rng (x := (x % q.m1 + q.k1 * (n + 1) + q.z1) % q.m2 * ((x % q.m1 + q.k1 * (n + 1) + q.z1) % q.m2) + q.k2 * (n + 1) + q.z2) o2.2.2.1
        refine ⟨_, rfl, _, rfl, _, _, rfl, rfl, .inl ⟨by omega, by omega⟩, _, rfl, _, _, rfl, rfl, .inl ⟨by omega, by omega⟩, _, _, rfl, rfl, .inl ⟨_, rfl, _, _, rfl, rfl, o2.2.2.2.2.2.1, ?_⟩⟩
        refine ⟨_, _, rfl, rfl, ⟨by omega, by omega⟩, .inl ⟨_, rfl, _, rfl, _, _, rfl, rfl, m0, ?_⟩⟩
        obtain ⟨r1, r2⟩ := emod_rng (x := ((((x % q.m1 + q.k1 * (n + 1) + q.z1) % q.m2 * ((x % q.m1 + q.k1 * (n + 1) + q.z1) % q.m2) + q.k2 * (n + 1) + q.z2) % q.m3 * (((x % q.m1 + q.k1 * (n + 1) + q.z1) % q.m2 * ((x % q.m1 + q.k1 * (n + 1) + q.z1) % q.m2) + q.k2 * (n + 1) + q.z2) % q.m3) + q.k3 * (((x % q.m1 + q.k1 * (n + 1) + q.z1) % q.m2 * ((x % q.m1 + q.k1 * (n + 1) + q.z1) % q.m2) + q.k2 * (n + 1) + q.z2) % q.m3)) % q.m4) / q.dv) m0
        exact hQ _ _ _ _ _ r1 r2 h
      refine ⟨_, rfl, _, _, rfl, rfl, ⟨o1.1, by omega, by omega⟩, _, _, rfl, rfl, _, rfl, if_b (fun _ => ?_) fun _ => ?_⟩
      · refine ⟨_, rfl, ?_⟩
        refine h.get_c rfl ⟨_, _, rfl, .inl ⟨_, SqL.of h.cells, rfl⟩, _, _, rfl, rfl, _, rfl, if_b (fun _ => ?_) fun _ => rest⟩
        refine ⟨_, rfl, _, rfl, _, _, rfl, rfl, ⟨m0, by omega⟩, ?_⟩
        refine h.put_l (D := { nx := _, rt := Q }) rfl fun H h => ?_
        obtain ⟨r1, r2⟩ := emod_rng (x := x) m0
        exact ⟨_, rfl, .inl ⟨_, rfl, _, rfl, _, _, rfl, rfl, m0, hQ _ _ _ _ _ r1 r2 h⟩⟩
      · exact rest
    refine h.get_c rfl ⟨by rw [sizeLine_eq]; decide, fun p hp => ?_⟩
    refine ⟨c, p, ns, rfl, rfl, (h.new hp).cells, upd_same, fun H' gw => ⟨_, rfl, if_b (fun hb => ?_) fun hb => ?_⟩⟩
    · have h := (h.new hp).gw gw
      refine h.get_c rfl ⟨_, rfl, .inl ⟨_, rfl, ?_⟩⟩
      have hl : (0 : Int) < (ns.map V.int).length := by
        cases ns with
        | nil => simp at hb
        | cons x r => simp
      refine h.get_c rfl ⟨_, _, rfl, .inl ⟨_, SqL.of h.cells, rfl⟩, _, _, rfl, rfl, hl, ?_⟩
      obtain ⟨r1, r2⟩ := emod_rng (x := t) hl
      obtain ⟨x, hx⟩ : ∃ x, atI (ns.map V.int) (t % ((ns.map V.int).length : Int)) = some (.int x) := by
        obtain ⟨k, hk⟩ := Int.eq_ofNat_of_zero_le r1
        have hk2 : k < ns.length := by
          have : (k : Int) < (ns.map V.int).length := by rw [← hk]; exact r2
          simpa using this
        refine ⟨ns[k], ?_⟩
        rw [hk]
        unfold atI ixN
        simp [hk2]
      exact ⟨c, _, _, _, rfl, rfl, SqL.of h.cells, hx, key x _ h⟩
    · exact key q.c0 _ ((h.new hp).gw gw)
end
end Rf

namespace Rf
open PySem PySem.Spec PyProof.Rows L2
variable [Kys]
def spDraw : Sp := fun vs H Q _ => ∃ (a c : Addr) (ns : List Int) (t l n m : Int), vs = [.ref a, .int m] ∧ 0 < m ∧ m < 1000000 ∧ Mo a c ns H H t l n ∧
  ∀ (r : Int) (H' : Hp) (t l n : Int), 0 ≤ r → r < m → Mo a c ns H H' t l n → Q (.int r) H'
theorem isSpr_eq {d : D} (h : isSpr d = true) : d = spr := by
  unfold isSpr at h
  split at h
  · rfl
  · cases h
theorem gn_draw {g : Gb} {k : Nat} {Z : Stat} {df : List Def} {f : Addr} {fd : FuncData} {x qual : Str} {params : Arguments} {body : List Stmt} {scope : Scope} {N ps : List Str} {q : Cs} {i : Nat}
    (F : FunD g.K x qual params body scope [] [] f fd) (S : FnScope N ps scope) (hN : N.length = 6) (hp : ps.length = 2) (hq : q.ok = true)
    (hb : ∀ (cdv : Value) (A : Around) (outer : List PySem.Env) (s : Shared) (H : Hp) (E : XK), Room k (A.deeper (envOfC qual scope s.heap.objs.size f cdv)) → PSs (cxOf CX0 g.P g.w g.K g.mg g.base N qual scope f cdv A outer s H E).nox body (tDraw g.K q))
    (hd : df[i]? = some .draw) : Gn g (k + 1) f fd ps (runK Z.gs Z.fs df (k + 1) i) := by
  have h : FnOk g.P g.w g.K g.mg g.base CX0 (k + 1) f fd ps spDraw := by
    refine F.ok S (fun vs H Q E h => ?_) (fun cdv A outer s H vs Q E hr h => ⟨tDraw g.K q, PSs.nox (hb cdv A outer s H E hr), ?_⟩)
    · obtain ⟨a, c, ns, t, l, n, m, rfl, _⟩ := h
      exact hp.symm
    · obtain ⟨a, c, ns, t, l, n, m, rfl, m0, m1, mo, hQ⟩ := h
      have e : L2.start N [V.ref a, V.int m] = [some (.ref a), some (.int m), none, none, none, none] := by
        unfold L2.start
        rw [hN]
        rfl
      rw [e]
      exact pure_draw hq mo m0 m1 hQ
  refine gn_fn h fun Am O ds vs H Q l rds w => ?_
  unfold runK at w
  rw [hd] at w
  cases rds with
  | nil => exact w.elim
  | cons r1 rs =>
    cases rs with
    | nil => exact w.elim
    | cons r2 rs =>
      cases rs with
      | cons _ _ => cases r2 <;> exact w.elim
      | nil =>
        cases r2 with
        | int m =>
          obtain ⟨⟨c1, c2, c3⟩, w⟩ := wp_ite w
          rw [isSpr_eq c1] at r1
          cases r1 with
          | spr ea =>
            obtain ⟨c, ⟨ns, t, l', n, e1, e2⟩, pc, hS⟩ := Am.drw l.si ea
            obtain ⟨pa, _⟩ := Am.tab l.si ea
            refine ⟨_, c, ns, t, l', n, m, rfl, c2, c3, ⟨e1, e2, fun _ _ e _ => e⟩, fun r H' t1 l1 n1 r0 r1 mo => ?_⟩
            obtain ⟨z, hz⟩ := Int.eq_ofNat_of_zero_le r0
            have w2 := w z (by omega)
            rw [hz]
            refine w2 _ H' (.int _) (fun a o e ne => mo.sm a o e fun z => ne (by rw [z]; exact ea)) (hS H' ⟨ns, t1, l1, n1, mo.d, mo.cells⟩ fun x px nx => ?_)
            cases hx : H x with
            | none => exact absurd hx (Am.there l.si px)
            | some o => exact mo.sm x o hx nx
        | _ => exact w.elim
end Rf

namespace Rf
open PySem PySem.Spec PyProof.Rows L2
variable [Kys]
def sprAmb (a c : Addr) : Amb where
  aS := some a
  pr := fun x => x = a ∨ x = c
  SI := SprAt a c
  keep := fun {H H'} ⟨ns, t, l, n, h1, h2⟩ k => ⟨ns, t, l, n, by rw [k a (.inl rfl)]; exact h1, by rw [k c (.inr rfl)]; exact h2⟩
  there := fun {H x} ⟨ns, t, l, n, h1, h2⟩ p => by
    rcases p with rfl | rfl
    · rw [h1]; exact fun z => nomatch z
    · rw [h2]; exact fun z => nomatch z
  tab := fun {H x} ⟨ns, t, l, n, h1, h2⟩ e => by
    cases e
    exact ⟨.inl rfl, _, h1⟩
  drw := fun {H x} h e => by
    cases e
    exact ⟨c, h, .inr rfl, fun H' h' _ => h'⟩
/-- the reading of the def that makes the source -/
def tSpring (K : PySem.W.Frag) (hi : Int) : TS := tRet (tDisp [(tKy Kys.kc, tCB (fun xs H Q => ∃ p ys, xs = [.ref p] ∧ (SqL K H p ys ∨ SqT K H p ys) ∧ ∀ l, H l = none → Q (.ref l) (upd H l (.lst ys))) (tCons (tSl (rSlL K) (tVar 0) tNoPart (tPart (tI0 hi))) tNil)),
  (tKy Kys.ka, tI0 0), (tKy Kys.kl, tI0 0), (tKy Kys.kn, tI0 0)])
def spSpring (K : PySem.W.Frag) : Sp := fun vs H Q _ => ∃ (a : Addr) (ns : List Int), vs = [.ref a] ∧ SqL K H a (ns.map V.int) ∧ ∀ (p c : Addr) (H' : Hp), Gw H H' → SprAt p c H' → Q (.ref p) H'
theorem merge4 {c : Addr} : mergeK [] (kvs4 c 0 0 0) = kvs4 c 0 0 0 := by
  obtain ⟨h1, h2, h3, h4, h5, h6⟩ := ky_ne Kys.ne
  simp [mergeK, putK, kvs4, h1, h2, h3, h4, h5, h6, Ne.symm h1, Ne.symm h2, Ne.symm h3, Ne.symm h4, Ne.symm h5, Ne.symm h6]
theorem cut_int (ns : List Int) (lo hi : Option Int) : cutV (ns.map V.int) lo hi = (cutD ns lo hi).map V.int := by
  unfold cutV cutD
  rw [List.length_map, List.map_take, List.map_drop]
theorem sqL_new {K : PySem.W.Frag} {H : Hp} {a p : Addr} {xs : List V} {o : HO} (h : SqL K H a xs) (hp : H p = none) : SqL K (upd H p o) a xs := by
  rcases h with h | h
  · rcases h with h | ⟨u, h⟩
    · exact .inl (.inl (by rw [upd_ne (ne_of_none h hp)]; exact h))
    · exact .inl (.inr ⟨u, by rw [upd_ne (ne_of_none h hp)]; exact h⟩)
  · exact .inr h
theorem pure_spring {K : PySem.W.Frag} {hi : Int} {a : Addr} {ns : List Int} {H : Hp} {Q : VK} {N : L2.St → Hp → Prop} (h : SqL K H a (ns.map V.int)) (hQ : ∀ (p c : Addr) (H' : Hp), Gw H H' → SprAt p c H' → Q (.ref p) H') :
    tSpring K hi (dEnds N Q) [some (.ref a)] H := by
  intro p hp
  refine ⟨_, rfl, _, rfl, a, _, rfl, sqL_new h hp, fun q hq => ⟨q, _, rfl, .inl (SqL.of upd_same), fun c hc => ?_⟩⟩
  have p1 : (upd H p (.dK [])) p = some (.dK []) := upd_same
  have p2 : p ≠ q := ne_of_none p1 hq
  have p3 : p ≠ c := ne_of_none (by rw [upd_ne p2]; exact p1) hc
  refine ⟨by rw [upd_ne p3, upd_ne p2]; exact p1, kvs4 c 0 0 0, rfl, (by show 4 ≤ 15; omega), ?_⟩
  rw [merge4]
  refine hQ p c _ (fun x o e => ?_) ⟨cutD ns none (some hi), 0, 0, 0, upd_same, ?_⟩
  · have x1 : x ≠ p := ne_of_none e hp
    have e1 : (upd H p (.dK [])) x = some o := by rw [upd_ne x1]; exact e
    have x2 : x ≠ q := ne_of_none e1 hq
    have e2 := e1
    rw [← upd_ne (H := upd H p (.dK [])) (o := .lst (cutV (ns.map V.int) none (some hi))) x2] at e2
    have x3 : x ≠ c := ne_of_none e2 hc
    rw [upd_ne x1, upd_ne x3]
    exact e2
  · rw [upd_ne (Ne.symm p3), upd_same, cut_int]
/-- the def that makes the source, by its body -/
theorem ok_spring {g : Gb} {k : Nat} {f : Addr} {fd : FuncData} {x qual : Str} {params : Arguments} {body : List Stmt} {scope : Scope} {N ps : List Str} {hi : Int}
    (F : FunD g.K x qual params body scope [] [] f fd) (S : FnScope N ps scope) (hN : N.length = 1) (hp : ps.length = 1)
    (hb : ∀ (cdv : Value) (A : Around) (outer : List PySem.Env) (s : Shared) (H : Hp) (E : XK), Room k (A.deeper (envOfC qual scope s.heap.objs.size f cdv)) → PSs (cxOf CX0 g.P g.w g.K g.mg g.base N qual scope f cdv A outer s H E).nox body (tSpring g.K hi)) :
    FnOk g.P g.w g.K g.mg g.base CX0 (k + 1) f fd ps (spSpring g.K) := by
  refine F.ok S (fun vs H Q E h => ?_) (fun cdv A outer s H vs Q E hr h => ⟨tSpring g.K hi, PSs.nox (hb cdv A outer s H E hr), ?_⟩)
  · obtain ⟨a, ns, rfl, _⟩ := h
    exact hp.symm
  · obtain ⟨a, ns, rfl, hS, hQ⟩ := h
    have e : L2.start N [V.ref a] = [some (.ref a)] := by
      unfold L2.start
      rw [hN]
      rfl
    rw [e]
    exact pure_spring hS hQ
/-- a def's call, from its body -/
theorem code_of {g : Gb} {k : Nat} {f : Addr} {fd : FuncData} {x qual : Str} {params : Arguments} {body : List Stmt} {scope : Scope} {dvs : List V} {kws : List (Str × V)} {N ps : List Str}
    (F : FunD g.K x qual params body scope dvs kws f fd) (S : FnScope N ps scope) {A : Around} {outer : List PySem.Env} {s : Shared} {H : Hp} {args : Args} {us : List Value} {vs : List V} {Q : VK}
    (hr : Room (k + 1) A) (hG : A.guards = some []) (e0 : Env0 g.P g.w g.K g.mg g.base A outer s H) (hb : BindsTo s fd args (ps.zip us)) (r : Vals vs us) (hl : vs.length = ps.length)
    (hP : ∀ cdv, BoOk g k (cxOf CX0 g.P g.w g.K g.mg g.base N qual scope f cdv A outer s H E0).nox → ∃ t, PSs (cxOf CX0 g.P g.w g.K g.mg g.base N qual scope f cdv A outer s H E0).nox body t ∧ t { nx := fun _ H' => Q .non H', rt := Q } (L2.start N vs) H) :
    codeAny (model g.P g.w) A (.call (.ref f) args) (CR CX0 outer g.P g.w H s Q E0) s := by
  obtain ⟨oc, od, dV, kV, doc, pm, an, cdv, ct, osl, rfl, lk, hcd, _, _⟩ := F.ex
  have KX : g.K.In s.heap := e0.mod.kin.keeps fun b o e => (e0.bs b o e).1
  have lim : s.heap.NoLimit := e0.mod.nolimit.keeps fun b o e => (e0.bs b o e).1
  have hkind : ∀ y ∈ ps.zip us, scope.names.lookup y.1 = some .local ∨ (scope.names.lookup y.1 = some .cell ∧ ((cellsFrom (s.heap.objs.size + 1) scope.names []).lookup y.1).isSome = true) := fun y hy => by
    obtain ⟨n, v⟩ := y
    rcases S.par n (List.of_mem_zip hy).1 with q | q
    · exact .inl q
    · exact .inr ⟨q, PySem.W.cellsFrom_some _ _ _ (.inl q)⟩
  refine codeAny_call_function hr.depth (KX _ _ lk) rfl S.co S.gen rfl (PySem.W.codeRec_of KX hcd) (hb _ _ _ _ ?_)
  refine wpAny_newFunctionEnv_cells S.kind hkind fun env he s1 y => ?_
  subst he
  refine ⟨lim.keeps y.toInCall.keep, codeAny_func ?_⟩
  have I0 : L2.Inv (cxOf CX0 g.P g.w g.K g.mg g.base N qual scope f cdv A outer s H E0) [] (L2.start N vs) H s1 := inv_start S hr.hd e0 hl r y
  have I := I0.wish fun _ _ => False
  have bo : BoOk g k (cxOf CX0 g.P g.w g.K g.mg g.base N qual scope f cdv A outer s H E0).nox := ⟨⟨rfl, rfl, rfl, rfl, rfl, rfl, S.nd, hr.deeper _, hG⟩, rfl, rfl, S.kind⟩
  obtain ⟨t, P, rd⟩ := hP cdv bo
  refine wpAny_mono (P.run [] s1 (L2.start N vs) H _ I rd) (fun fl s' hs => ?_) fun e s' hs => hs.elim
  have fin : ∀ {σ' : L2.St} {H' : Hp} {v : V} {u : Value}, L2.Inv (cxOf CX0 g.P g.w g.K g.mg g.base N qual scope f cdv A outer s H E0).nox [] σ' H' s' → RelV v u → Q v H' → CE outer g.P g.w H s Q u s' :=
    fun {σ' H' v u} J rv q => ⟨v, H', J.os, J.bare, J.base, J.hok, rv, q⟩
  cases fl with
  | ret u =>
    obtain ⟨v, σ', H', J, rv, q⟩ := hs
    exact fin J rv q
  | next =>
    obtain ⟨σ', H', J, q⟩ := hs
    exact fin (v := V.non) (u := Value.none) J rfl q
  | brk =>
    obtain ⟨_, _, _, q⟩ := hs
    exact False.elim q
  | cont =>
    obtain ⟨_, _, _, q⟩ := hs
    exact False.elim q
/-- where the law's own statements start -/
def lawEnv (n : Nat) : Env := (List.replicate n SV.no).set 1 (.val spr)
theorem law_code {g : Gb} {k : Nat} {Z : Stat} {cl : Nat → List D → T D} {f : Addr} {fd : FuncData} {x qual : Str} {params : Arguments} {st : Stmt} {rest : List Stmt} {scope : Scope} {N ps : List Str} {bd : Ss}
    (G : GOk Z g k cl) (F : FunD g.K x qual params (st :: rest) scope [] [] f fd) (S : FnScope N ps scope) (hN : 1 < N.length) (hps : ps.length = 1) (ck : chkSs Z N bd scope rest = true)
    (hbind : ∀ (s : Shared) (v : Value), BindsTo s fd ⟨[v], []⟩ (ps.zip [v]))
    (hT : (exs Z.gs Z.fs cl bd (lawEnv N.length)).wp fun fl => fl = .rt (.bool true))
    {A : Around} {outer : List PySem.Env} {s : Shared} {H : Hp} {a : Addr} {ns : List Int} (hr : Room (k + 1) A) (hG : A.guards = some []) (e0 : Env0 g.P g.w g.K g.mg g.base A outer s H) (hS : SqL g.K H a (ns.map V.int))
    (hs : ∀ cdv, BoOk g k (cxOf CX0 g.P g.w g.K g.mg g.base N qual scope f cdv A outer s H E0).nox → PS (cxOf CX0 g.P g.w g.K g.mg g.base N qual scope f cdv A outer s H E0).nox st (tAsg (tCall (spSpring g.K) [] E0 (tCons (tVar 0) tNil)) (gName 1))) :
    codeAny (model g.P g.w) A (.call (.ref f) ⟨[.ref a], []⟩) (CR CX0 outer g.P g.w H s (fun v _ => v = .bl true) E0) s := by
  refine code_of (vs := [.ref a]) F S hr hG e0 (hbind s (.ref a)) (.cons rfl .nil) hps.symm fun cdv bo => ⟨_, pss_cons (hs cdv bo) (sndSs G bd _ rest bo ck), ?_⟩
  have σ0 : (L2.start N [V.ref a])[0]? = some (some (.ref a)) := rfl
  refine ⟨_, σ0, a, ns, rfl, hS, fun p c H' gw sp => ?_⟩
  have len : (L2.start N [V.ref a]).length = N.length := by
    unfold L2.start
    simp only [List.length_append, List.length_map, List.length_replicate, List.length_cons, List.length_nil]
    omega
  refine ⟨sprAmb p c, fun _ => False, fun _ => False, H', lawEnv N.length, ⟨fun _ => False, ?_, Stp.refl, fun i es b e _ => ?_, fun _ z => z.elim, fun _ z => z.elim⟩, T.wp_mono (fun fl z => ?_) hT⟩
  · rw [un_no]
    refine ⟨by simp [lawEnv, len], fun i d e => ?_, fun i es e => ?_, fun i j es fs b e _ _ _ => ?_, fun _ z => z.elim, fun _ z => z.elim, sp⟩
    · unfold lawEnv at e
      rw [List.getElem?_set] at e
      by_cases hi : 1 = i
      · subst hi
        rw [if_pos rfl, if_pos (by simpa using hN)] at e
        cases e
        refine ⟨.ref p, ?_, .spr rfl⟩
        rw [List.getElem?_set, if_pos rfl, if_pos (by rw [len]; exact hN)]
      · rw [if_neg hi, List.getElem?_replicate] at e
        split at e <;> cases e
    · unfold lawEnv at e
      rw [List.getElem?_set] at e
      by_cases hi : 1 = i
      · subst hi
        rw [if_pos rfl, if_pos (by simpa using hN)] at e
        cases e
      · rw [if_neg hi, List.getElem?_replicate] at e
        split at e <;> cases e
    · unfold lawEnv at e
      rw [List.getElem?_set] at e
      by_cases hi : 1 = i
      · subst hi
        rw [if_pos rfl, if_pos (by simpa using hN)] at e
        cases e
      · rw [if_neg hi, List.getElem?_replicate] at e
        split at e <;> cases e
  · unfold lawEnv at e
    rw [List.getElem?_set] at e
    by_cases hi : 1 = i
    · subst hi
      rw [if_pos rfl, if_pos (by simpa using hN)] at e
      cases e
    · rw [if_neg hi, List.getElem?_replicate] at e
      split at e <;> cases e
  · subst z
    intro v H2 N2 rd _ _ _
    cases rd
    rfl
end Rf

namespace Rf
open PySem PySem.Spec PyProof.Rows L2
variable [Kys]
mutual
def datB (K : PySem.W.Frag) : Nat → Value → D → Bool
  | _, .none, .none => true
  | _, .bool b, .bool c => b == c
  | _, .int i _, .int j => decide (i = j)
  | _, .str x _, .str y => decide (x = y)
  | n + 1, .ref a, .tuple ds => (match K.lookup a with
    | some ⟨.type c, _, .seq its _, _⟩ => decide (c = "tuple") && (decide (its.size ≤ sizeLine) && datsB K n its.toList ds)
    | _ => false)
  | _, _, _ => false
def datsB (K : PySem.W.Frag) : Nat → List Value → List D → Bool
  | _, [], [] => true
  | n + 1, u :: us, d :: ds => datB K n u d && datsB K n us ds
  | _, _, _ => false
end
mutual
theorem datB_ok {K : PySem.W.Frag} : ∀ (n : Nat) (u : Value) (d : D), datB K n u d = true → ∃ v, RelV v u ∧ ∀ A O H, RD A O K H v d := by
  intro n u d h
  unfold datB at h
  split at h
  · exact ⟨.non, rfl, fun _ _ _ => .non⟩
  · rename_i b c
    have e : b = c := by simpa using h
    subst e
    exact ⟨.bl b, rfl, fun _ _ _ => .bl b⟩
  · have e := of_decide_eq_true h
    subst e
    exact ⟨.int _, ⟨_, rfl⟩, fun _ _ _ => .int _⟩
  · have e := of_decide_eq_true h
    subst e
    exact ⟨.str _, ⟨_, rfl⟩, fun _ _ _ => .str _⟩
  · rename_i m a ds
    split at h
    · rename_i c od its z sl q
      obtain ⟨h1, h2⟩ := He.ba h
      obtain ⟨h3, h4⟩ := He.ba h2
      obtain ⟨vs, rv, rd⟩ := datsB_ok m _ _ h4
      exact ⟨.ref a, rfl, fun A O H => .tup (.inr ⟨_, its, z, q, congrArg Value.type (of_decide_eq_true h1), rfl, of_decide_eq_true h3, rv⟩) (rd A O H)⟩
    · cases h
  · cases h
termination_by n => n
theorem datsB_ok {K : PySem.W.Frag} : ∀ (n : Nat) (us : List Value) (ds : List D), datsB K n us ds = true → ∃ vs, Vals vs us ∧ ∀ A O H, RDs A O K H vs ds := by
  intro n us ds h
  unfold datsB at h
  split at h
  · exact ⟨[], .nil, fun _ _ _ => .nil⟩
  · rename_i m u us d ds
    obtain ⟨h1, h2⟩ := He.ba h
    obtain ⟨v, r, rd⟩ := datB_ok m _ _ h1
    obtain ⟨vs, rs, rds⟩ := datsB_ok m _ _ h2
    exact ⟨v :: vs, .cons r rs, fun A O H => .cons (rd A O H) (rds A O H)⟩
  · cases h
termination_by n => n
end
/-- a name of the top holds the datum -/
def gloB (K : PySem.W.Frag) (q : Str × D) : Bool := match PySem.W.nsIn K mainGlobals q.1 with
  | some (some u) => datB K 400 u q.2
  | _ => false
theorem gloB_ok {K : PySem.W.Frag} {h : Heap} {mg : Str → Option Value} (X : K.In h) (G : h.Ns mainGlobals mg) {q : Str × D} (e : gloB K q = true) : ∃ v u, mg q.1 = some u ∧ RelV v u ∧ ∀ A O H, RD A O K H v q.2 := by
  unfold gloB at e
  cases z : PySem.W.nsIn K mainGlobals q.1 with
  | none => rw [z] at e; cases e
  | some o =>
    cases o with
    | none => rw [z] at e; cases e
    | some u =>
      rw [z] at e
      obtain ⟨v, r, rd⟩ := datB_ok 400 u q.2 e
      exact ⟨v, u, PySem.W.mg_of X G z, r, rd⟩
def gloX (gn : List Str) (gs : List D) (K : PySem.W.Frag) : Bool := (gn.zip gs).all (gloB K)
theorem gloX_ok {gn : List Str} {gs : List D} {K : PySem.W.Frag} {h : Heap} {mg : Str → Option Value} (X : K.In h) (G : h.Ns mainGlobals mg) (e : gloX gn gs K = true) :
    ∀ (i : Nat) (x : Str) (d : D), gn[i]? = some x → gs[i]? = some d → ∃ v u, mg x = some u ∧ RelV v u ∧ ∀ A O H, RD A O K H v d := by
  intro i x d e1 e2
  have hm : (x, d) ∈ gn.zip gs := List.mem_of_getElem? (i := i) (by rw [List.getElem?_zip_eq_some]; exact ⟨e1, e2⟩)
  exact gloB_ok X G (List.all_eq_true.mp e _ hm)
theorem bindF_of {K : PySem.W.Frag} {x qual : Str} {params : Arguments} {body : List Stmt} {scope : Scope} {kws : List (Str × V)} {f : Addr} {fd : FuncData} {ps : List Str} {Fo : Form} (F : FunD K x qual params body scope [] kws f fd)
    (h : ∀ (kV doc pm : Value) (an : Option Addr) (cdv ct : Value) (us ws : List Value), us.length = Fo.np → ws.length = Fo.ks.length → ∃ us', PickR K us ws Fo.ps us' ∧ us'.length = ps.length ∧ bindArgs (PySem.W.fnOf x qual params body scope .none kV doc pm an cdv ct) ⟨us, Fo.ks.zip ws⟩ = pure (ps.zip us')) : BindF K fd ps Fo := by
  obtain ⟨oc, od, dV, kV, doc, pm, an, cdv, ct, osl, rfl, lk, hcd, hD, hK⟩ := F.ex
  rcases hD with ⟨_, rfl⟩ | ⟨e, _⟩
  · intro s us ws _ h1 h2
    obtain ⟨us', p, l, e⟩ := h kV doc pm an cdv ct us ws h1 h2
    exact ⟨us', p, l, .of_eq e⟩
  · exact absurd rfl e
theorem forms_of {fs l : List Form} {i : Nat} {P : Form → Prop} (e : fs.filter (fun F => F.f == i) = l) (h : ∀ F ∈ l, P F) : ∀ F ∈ fs, F.f = i → P F := fun F hF hi => h F (by rw [← e]; exact List.mem_filter.mpr ⟨hF, by simpa using hi⟩)
end Rf

namespace Rf
open PySem
@[irreducible] def WP {α : Type} (t : T α) (Q : α → Prop) : Prop := t.wp Q
theorem WP.mk {α : Type} {t : T α} {Q : α → Prop} (h : t.wp Q) : WP t Q := by
  unfold WP
  exact h
theorem WP.out {α : Type} {t : T α} {Q : α → Prop} (h : WP t Q) : t.wp Q := by
  unfold WP at h
  exact h
theorem WP_ret {α : Type} {t : T α} {Q : α → Prop} {a : α} (e : t = .ret a) (h : Q a) : WP t Q := by
  rw [e]
  exact WP.mk h
end Rf

namespace Rf
open PySem PySem.Spec PyProof.Rows L2
variable [Kys]
theorem law_codeW {g : Gb} {k : Nat} {Z : Stat} {cl : Nat → List D → T D} {f : Addr} {fd : FuncData} {x qual : Str} {params : Arguments} {st : Stmt} {rest : List Stmt} {scope : Scope} {N ps : List Str} {bd : Ss}
    (G : GOk Z g k cl) (F : FunD g.K x qual params (st :: rest) scope [] [] f fd) (S : FnScope N ps scope) (hN : 1 < N.length) (hps : ps.length = 1) (ck : chkSs Z N bd scope rest = true)
    (hbind : ∀ (s : Shared) (v : Value), BindsTo s fd ⟨[v], []⟩ (ps.zip [v]))
    (hT : WP (exs Z.gs Z.fs cl bd (lawEnv N.length)) fun fl => fl = .rt (.bool true))
    {A : Around} {outer : List PySem.Env} {s : Shared} {H : Hp} {a : Addr} {ns : List Int} (hr : Room (k + 1) A) (hG : A.guards = some []) (e0 : Env0 g.P g.w g.K g.mg g.base A outer s H) (hS : SqL g.K H a (ns.map V.int))
    (hs : ∀ cdv, BoOk g k (cxOf CX0 g.P g.w g.K g.mg g.base N qual scope f cdv A outer s H E0).nox → PS (cxOf CX0 g.P g.w g.K g.mg g.base N qual scope f cdv A outer s H E0).nox st (tAsg (tCall (spSpring g.K) [] E0 (tCons (tVar 0) tNil)) (gName 1))) :
    codeAny (model g.P g.w) A (.call (.ref f) ⟨[.ref a], []⟩) (CR CX0 outer g.P g.w H s (fun v _ => v = .bl true) E0) s :=
  law_code G F S hN hps ck hbind hT.out hr hG e0 hS hs
end Rf

namespace Rf
open PySem
namespace T
def okT {α : Type} : T α → Bool
  | .ret _ => true
  | .stuck => false
  | .dip n k => (List.range n).all fun r => (k r).okT
def leaves {α : Type} : T α → List α
  | .ret a => [a]
  | .stuck => []
  | .dip n k => (List.range n).flatMap fun r => (k r).leaves
theorem wp_leaves {α : Type} : ∀ {t : T α}, t.okT = true → t.wp fun a => a ∈ t.leaves
  | .ret a, _ => List.mem_singleton.mpr rfl
  | .stuck, h => nomatch h
  | .dip n k, h => fun r hr => by
    have h1 := List.all_eq_true.mp h r (List.mem_range.mpr hr)
    exact wp_mono (fun a ha => List.mem_flatMap.mpr ⟨r, List.mem_range.mpr hr, ha⟩) (wp_leaves h1)
def allT {α : Type} (p : α → Bool) : T α → Bool
  | .ret a => p a
  | .stuck => false
  | .dip n k => (List.range n).all fun r => (k r).allT p
theorem wp_all {α : Type} {p : α → Bool} : ∀ {t : T α}, t.allT p = true → t.wp fun a => p a = true
  | .ret a, h => h
  | .stuck, h => nomatch h
  | .dip n k, h => fun r hr => wp_all (List.all_eq_true.mp h r (List.mem_range.mpr hr))
end T
theorem wp_lcGo {f : D → T (Option D)} {P : D → Prop} : ∀ {ds : List D}, (∀ d ∈ ds, (f d).wp fun o => ∃ y, o = some y ∧ P y) → (lcGo f ds).wp fun ys => ys.length = ds.length ∧ ∀ y ∈ ys, P y
  | [], _ => ⟨rfl, fun y h => by cases h⟩
  | d :: r, h => by
    refine T.wp_bind.mpr (T.wp_mono (fun o ho => ?_) (h d (List.mem_cons_self ..)))
    obtain ⟨y, rfl, py⟩ := ho
    refine T.wp_bind.mpr (T.wp_mono (fun ys hy => ?_) (wp_lcGo fun e he => h e (List.mem_cons_of_mem _ he)))
    exact ⟨congrArg (· + 1) hy.1, fun z hz => by
      rcases List.mem_cons.mp hz with rfl | hz
      · exact py
      · exact hy.2 z hz⟩
theorem lcGo_map {f : D → T (Option D)} {g : D → D} : ∀ {ds : List D}, (∀ d ∈ ds, f d = .ret (some (g d))) → lcGo f ds = .ret (ds.map g)
  | [], _ => rfl
  | d :: r, h => by
    unfold lcGo
    rw [h d (List.mem_cons_self ..), lcGo_map fun e he => h e (List.mem_cons_of_mem _ he)]
    rfl
theorem allB_map {b : D → Bool} : ∀ ds : List D, allB (ds.map fun d => .bool (b d)) = some (ds.map b)
  | [] => rfl
  | d :: r => by
    show (allB (r.map fun d => .bool (b d))).map (b d :: ·) = _
    rw [allB_map r]
    rfl
/-- leaves alike -/
def leafEq : D → D → Bool
  | .int i, .int j => decide (i = j)
  | .str x, .str y => decide (x = y)
  | _, _ => false
theorem leafEq_eq {a b : D} (h : leafEq a b = true) : a = b := by
  unfold leafEq at h
  split at h
  · rw [of_decide_eq_true h]
  · rw [of_decide_eq_true h]
  · cases h
theorem mem_of_leaf {a : D} {l : List D} (h : l.any (leafEq a) = true) : a ∈ l := by
  obtain ⟨b, hb, e⟩ := List.any_eq_true.mp h
  rw [leafEq_eq e]
  exact hb
theorem wp_forGo {body : D → Env → T Fl} {I : Env → Prop} : ∀ {ds : List D} {ρ : Env}, I ρ → (∀ d ∈ ds, ∀ ρ, I ρ → (body d ρ).wp fun fl => ∃ ρ', fl = .nx ρ' ∧ I ρ') → (forGo body ds ρ).wp fun fl => ∃ ρ', fl = .nx ρ' ∧ I ρ'
  | [], ρ, h0, _ => ⟨ρ, rfl, h0⟩
  | d :: r, ρ, h0, h => by
    refine T.wp_bind.mpr (T.wp_mono (fun fl hf => ?_) (h d (List.mem_cons_self ..) ρ h0))
    obtain ⟨ρ', rfl, i⟩ := hf
    exact wp_forGo i fun e he => h e (List.mem_cons_of_mem _ he)
section
variable {gs : List D} {fs : List Form} {cl : Nat → List D → T D} {ρ : Env} {Q : Fl → Prop}
theorem wp_cons {s : S} {r : Ss} (h : (ex gs fs cl s ρ).wp fun fl => ∃ ρ', fl = .nx ρ' ∧ (exs gs fs cl r ρ').wp Q) : (exs gs fs cl (.cons s r) ρ).wp Q := by
  unfold exs
  refine T.wp_bind.mpr (T.wp_mono (fun fl hf => ?_) h)
  obtain ⟨ρ', rfl, i⟩ := hf
  exact i
theorem wp_ret {e : E} {r : Ss} (h : (ev gs fs cl e ρ).wp fun d => Q (.rt d)) : (exs gs fs cl (.cons (.ret e) r) ρ).wp Q := by
  rw [exs, ex]
  exact T.wp_bind.mpr (T.wp_bind.mpr h)
theorem wp_set {i : Nat} {e : E} {r : Ss} (h : (ev gs fs cl e ρ).wp fun d => (exs gs fs cl r (ρ.set i (.val d))).wp Q) : (exs gs fs cl (.cons (.set i e) r) ρ).wp Q := by
  rw [exs, ex]
  exact T.wp_bind.mpr (T.wp_bind.mpr h)
theorem wp_nil {R : Fl → Prop} (h : R (.nx ρ)) : (exs gs fs cl .nil ρ).wp R := by
  rw [exs]
  exact h
theorem wp_evs_nil {R : List D → Prop} (h : R []) : (evs gs fs cl .nil ρ).wp R := by
  rw [evs]
  exact h
theorem wp_evs_cons {a : E} {r : Es} {R : List D → Prop} (h : (ev gs fs cl a ρ).wp fun x => (evs gs fs cl r ρ).wp fun xs => R (x :: xs)) : (evs gs fs cl (.cons a r) ρ).wp R := by
  rw [evs]
  refine T.wp_bind.mpr (T.wp_mono (fun x hx => ?_) h)
  exact T.wp_bind.mpr hx
theorem wp_lst {es : Es} {R : List D → Prop} (h : (evs gs fs cl es ρ).wp R) : (evI gs fs cl (.exp (.lst es)) ρ).wp R := by
  rw [evI, ev]
  exact T.wp_bind.mpr (T.wp_bind.mpr h)
theorem wp_cst {d : D} {R : D → Prop} (h : R d) : (ev gs fs cl (.cst d) ρ).wp R := by
  rw [ev]
  exact h
theorem wp_tup {es : Es} {R : D → Prop} (h : (evs gs fs cl es ρ).wp fun ds => R (.tuple ds)) : (ev gs fs cl (.tup es) ρ).wp R := by
  rw [ev]
  exact T.wp_bind.mpr h
theorem wp_elst {es : Es} {R : D → Prop} (h : (evs gs fs cl es ρ).wp fun ds => R (.list ds)) : (ev gs fs cl (.lst es) ρ).wp R := by
  rw [ev]
  exact T.wp_bind.mpr h
theorem wp_var {i : Nat} {d : D} {R : D → Prop} (e : ρ[i]? = some (.val d)) (h : R d) : (ev gs fs cl (.var i) ρ).wp R := by
  rw [ev, e]
  exact h
theorem wp_forGoN {body : D → Env → T Fl} {I : Nat → Env → Prop} : ∀ {ds : List D} {n : Nat} {ρ : Env}, I n ρ → (∀ d ∈ ds, ∀ i ρ, i < n + ds.length → I i ρ → (body d ρ).wp fun fl => ∃ ρ', fl = .nx ρ' ∧ I (i + 1) ρ') → (forGo body ds ρ).wp fun fl => ∃ ρ', fl = .nx ρ' ∧ I (n + ds.length) ρ'
  | [], n, ρ, h0, _ => ⟨ρ, rfl, h0⟩
  | d :: r, n, ρ, h0, h => by
    refine T.wp_bind.mpr (T.wp_mono (fun fl hf => ?_) (h d (List.mem_cons_self ..) n ρ (by simp only [List.length_cons]; omega) h0))
    obtain ⟨ρ', rfl, i⟩ := hf
    have e : n + (d :: r).length = (n + 1) + r.length := by simp only [List.length_cons]; omega
    rw [e]
    exact wp_forGoN i fun z he i ρ hi => h z (List.mem_cons_of_mem _ he) i ρ (by rw [e]; exact hi)
theorem wp_fr {tg : Tg} {it : It} {body : Ss} {P : D → Prop} {I : Env → Prop} (hi : (evI gs fs cl it ρ).wp fun ds => ∀ d ∈ ds, P d) (h0 : I ρ)
    (h : ∀ d ρ, P d → I ρ → ∃ ρ1, bindTg tg d ρ = some ρ1 ∧ (exs gs fs cl body ρ1).wp fun fl => ∃ ρ', fl = .nx ρ' ∧ I ρ') : (ex gs fs cl (.fr tg it body) ρ).wp fun fl => ∃ ρ', fl = .nx ρ' ∧ I ρ' := by
  unfold ex
  refine T.wp_bind.mpr (T.wp_mono (fun ds hd => ?_) hi)
  refine wp_forGo h0 fun d hm ρ i => ?_
  obtain ⟨ρ1, e, w⟩ := h d ρ (hd d hm) i
  rw [e]
  exact w
end
section
variable {gs : List D} {fs : List Form} {cl : Nat → List D → T D} {ρ : Env}
theorem ev_and {a b : E} : ev gs fs cl (.and a b) ρ = (ev gs fs cl a ρ).bind fun x => (isB x).bind fun c => if c then ev gs fs cl b ρ else ofB false := by rw [ev]
theorem ev_blt {b : Blt} {a : E} : ev gs fs cl (.blt b a) ρ = (ev gs fs cl a ρ).bind fun x => bltD b x := by rw [ev]
theorem ev_lc {elt : E} {tg : Tg} {it : It} {own : List (Str × Nat)} : ev gs fs cl (.lc elt tg it own) ρ = (evI gs fs cl it ρ).bind fun ds => lcRun (lcTurn tg (own.map (·.2)) (fun _ => .ret true) (fun ρ' => ev gs fs cl elt ρ') ρ) ds := by rw [ev]
theorem ev_isi {a : E} {t : Ty} : ev gs fs cl (.isi a t) ρ = (ev gs fs cl a ρ).bind fun x => if x.plain then ofB (isiD x t) else .stuck := by rw [ev]
theorem evs_nil_ret : evs gs fs cl .nil ρ = .ret [] := by rw [evs]
theorem evs_cons_ret {a : E} {r : Es} {x : D} {xs : List D} (h1 : ev gs fs cl a ρ = .ret x) (h2 : evs gs fs cl r ρ = .ret xs) : evs gs fs cl (.cons a r) ρ = .ret (x :: xs) := by
  rw [evs, h1, h2]
  rfl
theorem ev_tup_ret {es : Es} {ds : List D} (h : evs gs fs cl es ρ = .ret ds) : ev gs fs cl (.tup es) ρ = .ret (.tuple ds) := by
  rw [ev, h]
  rfl
theorem ev_lst_ret {es : Es} {ds : List D} (h : evs gs fs cl es ρ = .ret ds) : ev gs fs cl (.lst es) ρ = .ret (.list ds) := by
  rw [ev, h]
  rfl
theorem ev_var_ret {i : Nat} {d : D} (e : ρ[i]? = some (.val d)) : ev gs fs cl (.var i) ρ = .ret d := by rw [ev, e]
theorem exs_ret {e : E} {d : D} {r : Ss} (h : ev gs fs cl e ρ = .ret d) : exs gs fs cl (.cons (.ret e) r) ρ = .ret (.rt d) := by
  rw [exs, ex, h]
  rfl
end
theorem runK_code {gs : List D} {fs : List Form} {df : List Def} {k f np ns : Nat} {body : Ss} {ds : List D} (h : df[f]? = some (.code np ns body)) (h1 : ds.length = np) (h2 : np ≤ ns) :
    runK gs fs df (k + 1) f ds = (exs gs fs (runK gs fs df k) body (enter ns ds)).bind outOf := by
  unfold runK
  rw [h]
  exact if_pos ⟨h1, h2⟩
def ssHd : Ss → S
  | .cons s _ => s
  | .nil => .never
def ssTl : Ss → Ss
  | .cons _ r => r
  | .nil => .nil
def frBody : S → Ss
  | .fr _ _ b => b
  | _ => .nil
def frIt : S → It
  | .fr _ i _ => i
  | _ => .exp (.cst .none)
def ssTake : Nat → Ss → Ss
  | n + 1, .cons s r => .cons s (ssTake n r)
  | _, _ => .nil
def ssDrop : Nat → Ss → Ss
  | n + 1, .cons _ r => ssDrop n r
  | _, s => s
theorem exs_take {gs : List D} {fs : List Form} {cl : Nat → List D → T D} : ∀ (n : Nat) (s : Ss) (ρ ρ' : Env), exs gs fs cl (ssTake n s) ρ = .ret (.nx ρ') → exs gs fs cl s ρ = exs gs fs cl (ssDrop n s) ρ'
  | 0, s, ρ, ρ', h => by
    have h : T.ret (Fl.nx ρ) = T.ret (Fl.nx ρ') := by
      rw [ssTake] at h
      · rw [exs] at h; exact h
      · intros; contradiction
    cases h
    cases s <;> rfl
  | n + 1, .nil, ρ, ρ', h => by
    have h : T.ret (Fl.nx ρ) = T.ret (Fl.nx ρ') := by
      rw [ssTake] at h
      · rw [exs] at h; exact h
      · intros; contradiction
    cases h
    rfl
  | n + 1, .cons a r, ρ, ρ', h => by
    rw [ssTake, exs] at h
    rw [exs, ssDrop]
    cases q : ex gs fs cl a ρ with
    | ret fl =>
      rw [q] at h
      cases fl with
      | nx ρ1 => exact exs_take n r ρ1 ρ' h
      | rt d => cases h
      | bk d => cases h
      | ct d => cases h
    | stuck => rw [q] at h; cases h
    | dip m k => rw [q] at h; cases h
theorem shows_of {d : D} (h1 : d.plain = true) (h2 : d.depth ≤ 40) (h3 : d.showable = true) (h4 : d.leavesShort 100 = true) (h5 : d.weight ≤ 9000) : shows d = true := by
  have h := PyData.shown_le 100 (by decide) d h4
  have e : d.shown.length ≤ sz := by
    have : (100 + 2) * d.weight ≤ 102 * 9000 := Nat.mul_le_mul_left _ h5
    unfold sz
    omega
  simp [shows, okd, h1, h2, h3, e]
/-- a small leaf, or a small thing with little in it -/
def tOk (m : Nat) (d : D) : Bool := d.plain && (decide (d.depth ≤ m) && (d.showable && (d.leavesShort 100 && decide (d.weight ≤ 300))))
theorem tOk_parts {m : Nat} {d : D} (h : tOk m d = true) : d.plain = true ∧ d.depth ≤ m ∧ d.showable = true ∧ d.leavesShort 100 = true ∧ d.weight ≤ 300 := by
  unfold tOk at h
  simp only [Bool.and_eq_true, decide_eq_true_eq] at h
  exact h
theorem tOk_shows {m : Nat} {d : D} (h : tOk m d = true) (hm : m ≤ 40) : shows d = true := by
  obtain ⟨a1, a2, a3, a4, a5⟩ := tOk_parts h
  exact shows_of a1 (by omega) a3 a4 (by omega)
theorem tOk_all {m : Nat} : ∀ {ts : List D}, (∀ t ∈ ts, tOk m t = true) → PyData.plainAll ts = true ∧ PyData.depthAll ts ≤ m ∧ PyData.showableAll ts = true ∧ PyData.leavesShortAll 100 ts = true ∧ PyData.weightAll ts ≤ 301 * ts.length
  | [], _ => by simp [PyData.plainAll, PyData.depthAll, PyData.showableAll, PyData.leavesShortAll, PyData.weightAll]
  | t :: r, h => by
    obtain ⟨a1, a2, a3, a4, a5⟩ := tOk_parts (h t (List.mem_cons_self ..))
    obtain ⟨b1, b2, b3, b4, b5⟩ := tOk_all fun x hx => h x (List.mem_cons_of_mem _ hx)
    refine ⟨by simp [PyData.plainAll, a1, b1], by simp only [PyData.depthAll]; omega, by simp [PyData.showableAll, a3, b3], by simp [PyData.leavesShortAll, a4, b4], ?_⟩
    simp only [PyData.weightAll, List.length_cons]
    omega
theorem shows_tuple {m : Nat} {ts : List D} (h : ∀ t ∈ ts, tOk m t = true) (hm : m < 40) (hl : ts.length ≤ 20) : shows (.tuple ts) = true := by
  obtain ⟨b1, b2, b3, b4, b5⟩ := tOk_all h
  exact shows_of (by simpa [PyData.plain] using b1) (by simp only [PyData.depth]; omega) (by simpa [PyData.showable] using b3) (by simpa [PyData.leavesShort] using b4) (by simp only [PyData.weight]; omega)
theorem shows_list {m : Nat} {ts : List D} (h : ∀ t ∈ ts, tOk m t = true) (hm : m < 40) (hl : ts.length ≤ 20) : shows (.list ts) = true := by
  obtain ⟨b1, b2, b3, b4, b5⟩ := tOk_all h
  exact shows_of (by simpa [PyData.plain] using b1) (by simp only [PyData.depth]; omega) (by simpa [PyData.showable] using b3) (by simpa [PyData.leavesShort] using b4) (by simp only [PyData.weight]; omega)
end Rf

namespace K01
open PySem PySem.Spec PyProof.Rows L2 Rf
def top (i : Nat) : Stmt := PySem.Challenge.pw_howrows_k01_kinds_told.main.body.getD i (.Pass ⟨0, 0, 0, 0⟩)
def Nis_integer : List Str := ["thing"]
def Bis_integer : Ss :=
(.cons (.ret (.and (.isi (.var 0) .int) (.not (.isi (.var 0) .bool)))) .nil)
def Nis_number : List Str := ["thing"]
def Bis_number : Ss :=
(.cons (.ret (.and (.call 0 (.cons (.var 0) .nil) .nil) (.cmp .ge (.var 0) (.cst (.int (0)))))) .nil)
def Nis_name : List Str := ["thing", "sign"]
def Bis_name : Ss :=
(.cons (.ret (.and (.isi (.var 0) .str) (.and (.chn .le .le (.cst (.int (1))) (.blt .len (.var 0)) (.glo 0)) (.blt .all (.lc (.cmp .isin (.var 1) (.glo 1)) (.nm 1) (.exp (.var 0)) [((⟨#[115, 105, 103, 110]⟩ : Str), 1)]))))) .nil)
def Nis_pair : List Str := ["thing"]
def Bis_pair : Ss :=
(.cons (.ret (.and (.isi (.var 0) .tuple) (.cmp .eq (.blt .len (.var 0)) (.cst (.int (2)))))) .nil)
def Nis_term : List Str := ["thing"]
def Bis_term : Ss :=
(.cons (.ret (.or (.call 1 (.cons (.var 0) .nil) .nil) (.call 2 (.cons (.var 0) .nil) .nil))) .nil)
def Nis_terms : List Str := ["thing", "term"]
def Bis_terms : Ss :=
(.cons (.ret (.and (.isi (.var 0) .tuple) (.blt .all (.lc (.call 3 (.cons (.var 1) .nil) .nil) (.nm 1) (.exp (.var 0)) [((⟨#[116, 101, 114, 109]⟩ : Str), 1)])))) .nil)
def Nis_atom : List Str := ["thing"]
def Bis_atom : Ss :=
(.cons (.ret (.and (.call 4 (.cons (.var 0) .nil) .nil) (.and (.call 2 (.cons (.idx (.var 0) (.cst (.int (0)))) .nil) .nil) (.call 5 (.cons (.idx (.var 0) (.cst (.int (1)))) .nil) .nil)))) .nil)
def N_law_dip : List Str := ["_law_spring_here", "_law_many", "_law_figure", "_law_slot", "_law_cell", "_law_mixed"]
def N_law_pick : List Str := ["_law_spring_here", "_law_some"]
def B_law_pick : Ss :=
(.cons (.ret (.idx (.var 1) (.call 6 (.cons (.var 0) (.cons (.blt .len (.var 1)) .nil)) .nil))) .nil)
def N_law_same : List Str := ["_law_told", "_law_due"]
def B_law_same : Ss :=
(.cons (.ret (.cmp .eq (.blt .repr (.var 0)) (.blt .repr (.var 1)))) .nil)
def N_law_kit : List Str := ["_law_spring_here", "_law_unknowns", "_law_cells", "_law_tables"]
def B_law_kit : Ss :=
(.cons (.set 1 (.call 7 (.cons (.var 0) (.cons (.lst (.cons (.lst (.cons (.cst (.int (0))) (.cons (.cst (.int (1))) (.cons (.cst (.int (2))) (.cons (.cst (.int (3))) .nil))))) (.cons (.lst (.cons (.cst (.int (0))) (.cons (.cst (.int (1))) (.cons (.cst (.int (2))) .nil)))) (.cons (.lst (.cons (.cst (.int (9))) (.cons (.cst (.int (10))) (.cons (.cst (.int (2))) (.cons (.cst (.int (100))) .nil))))) (.cons (.lst (.cons (.bin .pow (.cst (.int (10))) (.cst (.int (59)))) (.cons (.cst (.int (5))) (.cons (.cst (.int (11))) (.cons (.cst (.int (0))) .nil))))) .nil))))) .nil)) .nil)) (.cons (.set 2 (.call 7 (.cons (.var 0) (.cons (.lst (.cons (.lst (.cons (.cst (.str ⟨#[97]⟩)) (.cons (.cst (.str ⟨#[98]⟩)) (.cons (.cst (.str ⟨#[97, 98]⟩)) (.cons (.cst (.str ⟨#[122, 122, 122, 122, 122, 122, 122, 122]⟩)) .nil))))) (.cons (.lst (.cons (.cst (.str ⟨#[97, 110, 110]⟩)) (.cons (.cst (.str ⟨#[114, 121, 101]⟩)) (.cons (.cst (.str ⟨#[116, 101, 97]⟩)) (.cons (.cst (.str ⟨#[104, 101, 114, 101]⟩)) .nil))))) (.cons (.lst (.cons (.cst (.str ⟨#[106, 111, 105, 110]⟩)) (.cons (.cst (.str ⟨#[97, 116, 111, 109]⟩)) (.cons (.cst (.str ⟨#[120]⟩)) (.cons (.cst (.str ⟨#[97]⟩)) .nil))))) .nil)))) .nil)) .nil)) (.cons (.set 3 (.call 7 (.cons (.var 0) (.cons (.lst (.cons (.lst (.cons (.cst (.str ⟨#[114]⟩)) (.cons (.cst (.str ⟨#[113]⟩)) (.cons (.cst (.str ⟨#[114, 97]⟩)) .nil)))) (.cons (.lst (.cons (.cst (.str ⟨#[108, 105, 107, 101, 115]⟩)) (.cons (.cst (.str ⟨#[115, 111, 108, 100]⟩)) (.cons (.cst (.str ⟨#[114]⟩)) .nil)))) (.cons (.lst (.cons (.cst (.str ⟨#[106, 111, 105, 110]⟩)) (.cons (.cst (.str ⟨#[97, 116, 111, 109]⟩)) (.cons (.cst (.str ⟨#[97]⟩)) .nil)))) (.cons (.lst (.cons (.cst (.str ⟨#[114]⟩)) (.cons (.cst (.str ⟨#[114]⟩)) (.cons (.cst (.str ⟨#[97, 98, 99, 100, 101, 102, 103, 104]⟩)) .nil)))) .nil))))) .nil)) .nil)) (.cons (.ret (.tup (.cons (.var 1) (.cons (.var 2) (.cons (.var 3) .nil))))) .nil))))
def N_law_terms : List Str := ["_law_spring_here", "_law_kit_here", "_law_most", "_law_many", "_law_lap"]
def B_law_terms : Ss :=
(.cons (.set 3 (.call 6 (.cons (.var 0) (.cons (.bin .add (.var 2) (.cst (.int (1)))) .nil)) .nil)) (.cons (.ret (.blt .tuple (.lc (.call 7 (.cons (.var 0) (.cons (.ite (.cmp .gt (.call 6 (.cons (.var 0) (.cons (.cst (.int (3))) .nil)) .nil) (.cst (.int (0)))) (.idx (.var 1) (.cst (.int (0)))) (.idx (.var 1) (.cst (.int (1))))) .nil)) .nil) (.nm 4) (.rng (.var 3)) [((⟨#[95, 108, 97, 119, 95, 108, 97, 112]⟩ : Str), 4)]))) .nil))
def N_law_is_name : List Str := ["_law_item", "_law_sign"]
def B_law_is_name : Ss :=
(.cons (.ifs (.or (.not (.isi (.var 0) .str)) (.not (.chn .le .le (.cst (.int (1))) (.blt .len (.var 0)) (.cst (.int (8))))))
(.cons (.ret (.cst (.bool false))) .nil)
.nil) (.cons (.ret (.cmp .eq (.lcif (.var 1) (.nm 1) (.exp (.var 0)) [((⟨#[95, 108, 97, 119, 95, 115, 105, 103, 110]⟩ : Str), 1)] (.cmp .notin (.var 1) (.cst (.str ⟨#[97, 98, 99, 100, 101, 102, 103, 104, 105, 106, 107, 108, 109, 110, 111, 112, 113, 114, 115, 116, 117, 118, 119, 120, 121, 122]⟩)))) (.lst .nil))) .nil))
def N_law_is_number : List Str := ["_law_item"]
def B_law_is_number : Ss :=
(.cons (.ret (.and (.isi (.var 0) .int) (.and (.not (.isi (.var 0) .bool)) (.cmp .ge (.var 0) (.cst (.int (0))))))) .nil)
def N_law_is_term : List Str := ["_law_item"]
def B_law_is_term : Ss :=
(.cons (.ret (.or (.call 8 (.cons (.var 0) .nil) .nil) (.call 9 (.cons (.var 0) .nil) .nil))) .nil)
def N_law_is_atom : List Str := ["_law_item", "_law_one"]
def B_law_is_atom : Ss :=
(.cons (.ifs (.or (.not (.isi (.var 0) .tuple)) (.or (.cmp .ne (.blt .len (.var 0)) (.cst (.int (2)))) (.or (.not (.call 9 (.cons (.idx (.var 0) (.cst (.int (0)))) .nil) .nil)) (.not (.isi (.idx (.var 0) (.cst (.int (1)))) .tuple)))))
(.cons (.ret (.cst (.bool false))) .nil)
.nil) (.cons (.ret (.cmp .eq (.lcif (.var 1) (.nm 1) (.exp (.idx (.var 0) (.cst (.int (1))))) [((⟨#[95, 108, 97, 119, 95, 111, 110, 101]⟩ : Str), 1)] (.not (.call 10 (.cons (.var 1) .nil) .nil))) (.lst .nil))) .nil))
def N_law_values : List Str := ["_law_spring_here", "_law_kit_here", "_law_yes", "_law_no", "_law_found", "_law_word", "_law_items", "_law_item"]
def B_law_values : Ss :=
(.cons (.par 2 3 (.cst (.bool true)) (.cst (.bool false))) (.cons (.own 4 (.lst (.cons (.tup (.cons (.cst (.int (0))) (.cons (.lst (.cons (.var 2) (.cons (.var 2) (.cons (.var 3) (.cons (.var 2) (.cons (.var 3) (.cons (.var 3) .nil))))))) .nil))) (.cons (.tup (.cons (.neg (.cst (.int (1)))) (.cons (.lst (.cons (.var 2) (.cons (.var 3) (.cons (.var 3) (.cons (.var 3) (.cons (.var 3) (.cons (.var 3) .nil))))))) .nil))) (.cons (.tup (.cons (.bin .pow (.cst (.int (10))) (.cst (.int (59)))) (.cons (.lst (.cons (.var 2) (.cons (.var 2) (.cons (.var 3) (.cons (.var 2) (.cons (.var 3) (.cons (.var 3) .nil))))))) .nil))) .nil))))) (.cons (.frz 4) (.cons (.own 4 (.bin .add (.var 4) (.lst (.cons (.tup (.cons (.neg (.bin .pow (.cst (.int (10))) (.cst (.int (58))))) (.cons (.lst (.cons (.var 2) (.cons (.var 3) (.cons (.var 3) (.cons (.var 3) (.cons (.var 3) (.cons (.var 3) .nil))))))) .nil))) (.cons (.tup (.cons (.cst (.bool true)) (.cons (.bin .mul (.lst (.cons (.var 3) .nil)) (.cst (.int (6)))) .nil))) (.cons (.tup (.cons (.cst (.bool false)) (.cons (.bin .mul (.lst (.cons (.var 3) .nil)) (.cst (.int (6)))) .nil))) (.cons (.tup (.cons (.cst .none) (.cons (.bin .mul (.lst (.cons (.var 3) .nil)) (.cst (.int (6)))) .nil))) .nil))))))) (.cons (.fr (.nm 5) (.exp (.lst (.cons (.cst (.str ⟨#[97]⟩)) (.cons (.cst (.str ⟨#[122, 122, 122, 122, 122, 122, 122, 122]⟩)) (.cons (.cst (.str ⟨#[106, 111, 105, 110]⟩)) (.cons (.call 7 (.cons (.var 0) (.cons (.idx (.var 1) (.cst (.int (1)))) .nil)) .nil) (.cons (.call 7 (.cons (.var 0) (.cons (.idx (.var 1) (.cst (.int (2)))) .nil)) .nil) .nil)))))))
(.cons (.app 4 (.tup (.cons (.var 5) (.cons (.lst (.cons (.var 3) (.cons (.var 3) (.cons (.var 2) (.cons (.var 2) (.cons (.var 3) (.cons (.var 3) .nil))))))) .nil)))) .nil)) (.cons (.fr (.nm 5) (.exp (.lst (.cons (.cst (.str ⟨#[]⟩)) (.cons (.cst (.str ⟨#[65]⟩)) (.cons (.cst (.str ⟨#[97, 66]⟩)) (.cons (.cst (.str ⟨#[97, 98, 99, 100, 101, 102, 103, 104, 105]⟩)) (.cons (.cst (.str ⟨#[97, 32, 98]⟩)) (.cons (.cst (.str ⟨#[97, 45, 98]⟩)) (.cons (.cst (.str ⟨#[32, 97]⟩)) (.cons (.cst (.str ⟨#[97, 48]⟩)) (.cons (.cst (.str ⟨#[48]⟩)) (.cons (.cst (.str ⟨#[45]⟩)) (.cons (.cst (.str ⟨#[97, 45]⟩)) .nil)))))))))))))
(.cons (.app 4 (.tup (.cons (.var 5) (.cons (.bin .mul (.lst (.cons (.var 3) .nil)) (.cst (.int (6)))) .nil)))) .nil)) (.cons (.set 6 (.call 11 (.cons (.var 0) (.cons (.var 1) (.cons (.cst (.int (5))) .nil))) .nil)) (.cons (.fr (.nm 7) (.exp (.lst (.cons (.tup .nil) (.cons (.tup (.cons (.cst (.int (0))) .nil)) (.cons (.tup (.cons (.cst (.str ⟨#[97]⟩)) .nil)) (.cons (.tup (.cons (.cst (.str ⟨#[114]⟩)) .nil)) (.cons (.tup (.cons (.cst (.int (1))) (.cons (.cst (.str ⟨#[114, 121, 101]⟩)) (.cons (.cst (.int (0))) .nil)))) (.cons (.tup (.cons (.bin .pow (.cst (.int (10))) (.cst (.int (59)))) (.cons (.cst (.int (0))) .nil))) (.cons (.var 6) .nil)))))))))
(.cons (.app 4 (.tup (.cons (.var 7) (.cons (.lst (.cons (.var 3) (.cons (.var 3) (.cons (.var 3) (.cons (.var 3) (.cons (.var 2) (.cons (.and (.cmp .eq (.blt .len (.var 7)) (.cst (.int (2)))) (.call 12 (.cons (.var 7) .nil) .nil)) .nil))))))) .nil)))) .nil)) (.cons (.fr (.nm 7) (.exp (.lst (.cons (.lst .nil) (.cons (.lst (.cons (.cst (.int (0))) .nil)) (.cons (.tup (.cons (.cst (.bool true)) .nil)) (.cons (.tup (.cons (.cst .none) .nil)) (.cons (.tup (.cons (.cst (.str ⟨#[]⟩)) .nil)) (.cons (.tup (.cons (.cst (.int (0))) (.cons (.neg (.cst (.int (1)))) .nil))) (.cons (.tup (.cons (.tup .nil) .nil)) (.cons (.tup (.cons (.tup (.cons (.cst (.str ⟨#[97]⟩)) .nil)) .nil)) (.cons (.tup (.cons (.cst (.str ⟨#[65]⟩)) (.cons (.cst (.int (0))) .nil))) (.cons (.tup (.cons (.cst (.int (0))) (.cons (.lst (.cons (.cst (.str ⟨#[97]⟩)) .nil)) .nil))) (.cons (.lst (.cons (.cst (.str ⟨#[97]⟩)) .nil)) (.cons (.blt .list (.var 6)) .nil))))))))))))))
(.cons (.app 4 (.tup (.cons (.var 7) (.cons (.bin .mul (.lst (.cons (.var 3) .nil)) (.cst (.int (6)))) .nil)))) .nil)) (.cons (.fr (.nm 7) (.exp (.lst (.cons (.tup (.cons (.cst (.str ⟨#[114]⟩)) (.cons (.tup .nil) .nil))) (.cons (.tup (.cons (.cst (.str ⟨#[97, 98, 99, 100, 101, 102, 103, 104]⟩)) (.cons (.tup (.cons (.cst (.int (0))) (.cons (.cst (.str ⟨#[97]⟩)) (.cons (.cst (.int (0))) .nil)))) .nil))) (.cons (.tup (.cons (.call 7 (.cons (.var 0) (.cons (.idx (.var 1) (.cst (.int (2)))) .nil)) .nil) (.cons (.var 6) .nil))) .nil)))))
(.cons (.app 4 (.tup (.cons (.var 7) (.cons (.lst (.cons (.var 3) (.cons (.var 3) (.cons (.var 3) (.cons (.var 3) (.cons (.var 3) (.cons (.var 2) .nil))))))) .nil)))) .nil)) (.cons (.fr (.nm 7) (.exp (.lst (.cons (.tup (.cons (.cst (.str ⟨#[114]⟩)) (.cons (.lst .nil) .nil))) (.cons (.tup (.cons (.cst (.str ⟨#[114]⟩)) (.cons (.lst (.cons (.cst (.int (0))) .nil)) .nil))) (.cons (.tup (.cons (.cst (.str ⟨#[82]⟩)) (.cons (.tup .nil) .nil))) (.cons (.tup (.cons (.cst (.str ⟨#[]⟩)) (.cons (.tup .nil) .nil))) (.cons (.tup (.cons (.cst (.str ⟨#[82]⟩)) .nil)) (.cons (.tup (.cons (.cst (.str ⟨#[114]⟩)) (.cons (.tup .nil) (.cons (.tup .nil) .nil)))) (.cons (.tup (.cons (.cst (.str ⟨#[114]⟩)) (.cons (.tup (.cons (.cst (.bool true)) .nil)) .nil))) (.cons (.tup (.cons (.cst (.str ⟨#[114]⟩)) (.cons (.tup (.cons (.neg (.cst (.int (1)))) .nil)) .nil))) (.cons (.tup (.cons (.cst (.int (0))) (.cons (.tup .nil) .nil))) .nil)))))))))))
(.cons (.app 4 (.tup (.cons (.var 7) (.cons (.bin .mul (.lst (.cons (.var 3) .nil)) (.cst (.int (6)))) .nil)))) .nil)) (.cons (.fr (.nm 7) (.exp (.lst (.cons (.lst (.cons (.cst (.str ⟨#[114]⟩)) (.cons (.tup .nil) .nil))) (.cons (.tup (.cons (.cst (.str ⟨#[114]⟩)) (.cons (.cst .none) .nil))) (.cons (.tup (.cons (.cst (.str ⟨#[114]⟩)) (.cons (.tup (.cons (.cst (.str ⟨#[65]⟩)) .nil)) .nil))) (.cons (.tup (.cons (.cst .none) (.cons (.tup .nil) .nil))) (.cons (.tup (.cons (.cst (.str ⟨#[114]⟩)) (.cons (.tup (.cons (.tup .nil) .nil)) .nil))) (.cons (.tup (.cons (.tup (.cons (.cst (.str ⟨#[114]⟩)) .nil)) (.cons (.tup .nil) .nil))) (.cons (.tup (.cons (.cst (.str ⟨#[97, 98, 99, 100, 101, 102, 103, 104, 105]⟩)) (.cons (.tup .nil) .nil))) (.cons (.tup (.cons (.cst (.str ⟨#[114]⟩)) (.cons (.tup (.cons (.lst .nil) .nil)) .nil))) .nil))))))))))
(.cons (.app 4 (.tup (.cons (.var 7) (.cons (.bin .mul (.lst (.cons (.var 3) .nil)) (.cst (.int (6)))) .nil)))) .nil)) (.cons (.frz 4) (.cons (.ret (.var 4)) .nil))))))))))))))
def Nlaw : List Str := ["_law_script", "_law_spring_here", "_law_lap", "_law_item", "_law_due", "_law_kept", "_law_told", "_law_named"]
def Blaw : Ss :=
(.cons (.fr (.nm 2) (.rng (.cst (.int (3))))
(.cons (.fr (.tp [3, 4]) (.exp (.call 13 (.cons (.var 1) (.cons (.call 14 (.cons (.var 1) .nil) .nil) .nil)) .nil))
(.cons (.set 5 (.blt .repr (.var 3))) (.cons (.set 6 (.lst (.cons (.call 0 (.cons (.var 3) .nil) .nil) (.cons (.call 1 (.cons (.var 3) .nil) .nil) (.cons (.call 2 (.cons (.var 3) .nil) .nil) (.cons (.call 3 (.cons (.var 3) .nil) .nil) (.cons (.call 5 (.cons (.var 3) .nil) .nil) (.cons (.call 15 (.cons (.var 3) .nil) .nil) .nil)))))))) (.cons (.set 7 (.lst (.cons (.call 19 .nil (.cons (.var 3) .nil)) (.cons (.call 18 .nil (.cons (.var 3) .nil)) (.cons (.call 17 .nil (.cons (.var 3) .nil)) (.cons (.call 16 .nil (.cons (.var 3) .nil)) .nil)))))) (.cons (.set 7 (.bin .add (.var 7) (.lst (.cons (.call 21 .nil (.cons (.var 3) .nil)) (.cons (.call 20 .nil (.cons (.var 3) .nil)) .nil))))) (.cons (.ifs (.or (.not (.call 22 (.cons (.lst (.cons (.var 6) (.cons (.var 7) .nil))) (.cons (.lst (.cons (.var 4) (.cons (.var 4) .nil))) .nil)) .nil)) (.cmp .ne (.blt .repr (.var 3)) (.var 5)))
(.cons (.ret (.cst (.bool false))) .nil)
.nil) .nil)))))) .nil)) (.cons (.ret (.call 22 (.cons (.glo 2) (.cons (.tup (.cons (.cst (.str ⟨#[99, 111, 117, 110, 116, 115]⟩)) (.cons (.cst (.str ⟨#[119, 97, 121, 115]⟩)) (.cons (.cst (.str ⟨#[99, 111, 115, 116, 115]⟩)) (.cons (.cst (.str ⟨#[115, 111, 117, 114, 99, 101, 115]⟩)) (.cons (.cst (.str ⟨#[108, 101, 97, 115, 116]⟩)) .nil)))))) .nil)) .nil)) .nil))
def Z : Stat where
  gn := ["MOST_LETTERS", "LETTERS", "KINDS"]
  gs := [(.int (8)), (.str ⟨#[97, 98, 99, 100, 101, 102, 103, 104, 105, 106, 107, 108, 109, 110, 111, 112, 113, 114, 115, 116, 117, 118, 119, 120, 121, 122]⟩), (.tuple [(.str ⟨#[99, 111, 117, 110, 116, 115]⟩), (.str ⟨#[119, 97, 121, 115]⟩), (.str ⟨#[99, 111, 115, 116, 115]⟩), (.str ⟨#[115, 111, 117, 114, 99, 101, 115]⟩), (.str ⟨#[108, 101, 97, 115, 116]⟩)])]
  dn := ["is_integer", "is_number", "is_name", "is_pair", "is_term", "is_terms", "is_atom", "_law_dip", "_law_pick", "_law_same", "_law_kit", "_law_terms", "_law_is_name", "_law_is_number", "_law_is_term", "_law_is_atom", "_law_values"]
  fs := [⟨0, 1, [], [.pos 0]⟩,
    ⟨1, 1, [], [.pos 0]⟩,
    ⟨2, 1, [], [.pos 0]⟩,
    ⟨4, 1, [], [.pos 0]⟩,
    ⟨3, 1, [], [.pos 0]⟩,
    ⟨5, 1, [], [.pos 0]⟩,
    ⟨7, 2, [], [.pos 0, .pos 1]⟩,
    ⟨8, 2, [], [.pos 0, .pos 1]⟩,
    ⟨13, 1, [], [.pos 0]⟩,
    ⟨12, 1, [], [.pos 0]⟩,
    ⟨14, 1, [], [.pos 0]⟩,
    ⟨11, 3, [], [.pos 0, .pos 1, .pos 2]⟩,
    ⟨15, 1, [], [.pos 0]⟩,
    ⟨16, 2, [], [.pos 0, .pos 1]⟩,
    ⟨10, 1, [], [.pos 0]⟩,
    ⟨6, 1, [], [.pos 0]⟩,
    ⟨4, 0, ["thing"], [.kw 0]⟩,
    ⟨2, 0, ["thing"], [.kw 0]⟩,
    ⟨1, 0, ["thing"], [.kw 0]⟩,
    ⟨0, 0, ["thing"], [.kw 0]⟩,
    ⟨6, 0, ["thing"], [.kw 0]⟩,
    ⟨5, 0, ["thing"], [.kw 0]⟩,
    ⟨9, 2, [], [.pos 0, .pos 1]⟩]
def df : List Def := [.code 1 1 Bis_integer,
  .code 1 1 Bis_number,
  .code 1 2 Bis_name,
  .code 1 1 Bis_pair,
  .code 1 1 Bis_term,
  .code 1 2 Bis_terms,
  .code 1 1 Bis_atom,
  .draw,
  .code 2 2 B_law_pick,
  .code 2 2 B_law_same,
  .code 1 4 B_law_kit,
  .code 3 5 B_law_terms,
  .code 1 2 B_law_is_name,
  .code 1 1 B_law_is_number,
  .code 1 1 B_law_is_term,
  .code 1 2 B_law_is_atom,
  .code 2 8 B_law_values]
theorem ckis_integer : chkSs Z Nis_integer Bis_integer (defScope (top 4)) (defBody (top 4)) = true := by decide +kernel
theorem scis_integer : FnScope Nis_integer ["thing"] (defScope (top 4)) := ⟨rfl, rfl, rfl, by decide +kernel, rfl, by decide +kernel, by decide +kernel⟩
theorem ckis_number : chkSs Z Nis_number Bis_number (defScope (top 5)) (defBody (top 5)) = true := by decide +kernel
theorem scis_number : FnScope Nis_number ["thing"] (defScope (top 5)) := ⟨rfl, rfl, rfl, by decide +kernel, rfl, by decide +kernel, by decide +kernel⟩
theorem ckis_name : chkSs Z Nis_name Bis_name (defScope (top 6)) (defBody (top 6)) = true := by decide +kernel
theorem scis_name : FnScope Nis_name ["thing"] (defScope (top 6)) := ⟨rfl, rfl, rfl, by decide +kernel, rfl, by decide +kernel, by decide +kernel⟩
theorem ckis_pair : chkSs Z Nis_pair Bis_pair (defScope (top 7)) (defBody (top 7)) = true := by decide +kernel
theorem scis_pair : FnScope Nis_pair ["thing"] (defScope (top 7)) := ⟨rfl, rfl, rfl, by decide +kernel, rfl, by decide +kernel, by decide +kernel⟩
theorem ckis_term : chkSs Z Nis_term Bis_term (defScope (top 8)) (defBody (top 8)) = true := by decide +kernel
theorem scis_term : FnScope Nis_term ["thing"] (defScope (top 8)) := ⟨rfl, rfl, rfl, by decide +kernel, rfl, by decide +kernel, by decide +kernel⟩
theorem ckis_terms : chkSs Z Nis_terms Bis_terms (defScope (top 9)) (defBody (top 9)) = true := by decide +kernel
theorem scis_terms : FnScope Nis_terms ["thing"] (defScope (top 9)) := ⟨rfl, rfl, rfl, by decide +kernel, rfl, by decide +kernel, by decide +kernel⟩
theorem ckis_atom : chkSs Z Nis_atom Bis_atom (defScope (top 10)) (defBody (top 10)) = true := by decide +kernel
theorem scis_atom : FnScope Nis_atom ["thing"] (defScope (top 10)) := ⟨rfl, rfl, rfl, by decide +kernel, rfl, by decide +kernel, by decide +kernel⟩
theorem sc_law_dip : FnScope N_law_dip ["_law_spring_here", "_law_many"] (defScope (top 13)) := ⟨rfl, rfl, rfl, by decide +kernel, rfl, by decide +kernel, by decide +kernel⟩
theorem ck_law_pick : chkSs Z N_law_pick B_law_pick (defScope (top 14)) (defBody (top 14)) = true := by decide +kernel
theorem sc_law_pick : FnScope N_law_pick ["_law_spring_here", "_law_some"] (defScope (top 14)) := ⟨rfl, rfl, rfl, by decide +kernel, rfl, by decide +kernel, by decide +kernel⟩
theorem ck_law_same : chkSs Z N_law_same B_law_same (defScope (top 15)) (defBody (top 15)) = true := by decide +kernel
theorem sc_law_same : FnScope N_law_same ["_law_told", "_law_due"] (defScope (top 15)) := ⟨rfl, rfl, rfl, by decide +kernel, rfl, by decide +kernel, by decide +kernel⟩
theorem ck_law_kit : chkSs Z N_law_kit B_law_kit (defScope (top 16)) (defBody (top 16)) = true := by decide +kernel
theorem sc_law_kit : FnScope N_law_kit ["_law_spring_here"] (defScope (top 16)) := ⟨rfl, rfl, rfl, by decide +kernel, rfl, by decide +kernel, by decide +kernel⟩
theorem ck_law_terms : chkSs Z N_law_terms B_law_terms (defScope (top 17)) (defBody (top 17)) = true := by decide +kernel
theorem sc_law_terms : FnScope N_law_terms ["_law_spring_here", "_law_kit_here", "_law_most"] (defScope (top 17)) := ⟨rfl, rfl, rfl, by decide +kernel, rfl, by decide +kernel, by decide +kernel⟩
theorem ck_law_is_name : chkSs Z N_law_is_name B_law_is_name (defScope (top 18)) (defBody (top 18)) = true := by decide +kernel
theorem sc_law_is_name : FnScope N_law_is_name ["_law_item"] (defScope (top 18)) := ⟨rfl, rfl, rfl, by decide +kernel, rfl, by decide +kernel, by decide +kernel⟩
theorem ck_law_is_number : chkSs Z N_law_is_number B_law_is_number (defScope (top 19)) (defBody (top 19)) = true := by decide +kernel
theorem sc_law_is_number : FnScope N_law_is_number ["_law_item"] (defScope (top 19)) := ⟨rfl, rfl, rfl, by decide +kernel, rfl, by decide +kernel, by decide +kernel⟩
theorem ck_law_is_term : chkSs Z N_law_is_term B_law_is_term (defScope (top 20)) (defBody (top 20)) = true := by decide +kernel
theorem sc_law_is_term : FnScope N_law_is_term ["_law_item"] (defScope (top 20)) := ⟨rfl, rfl, rfl, by decide +kernel, rfl, by decide +kernel, by decide +kernel⟩
theorem ck_law_is_atom : chkSs Z N_law_is_atom B_law_is_atom (defScope (top 21)) (defBody (top 21)) = true := by decide +kernel
theorem sc_law_is_atom : FnScope N_law_is_atom ["_law_item"] (defScope (top 21)) := ⟨rfl, rfl, rfl, by decide +kernel, rfl, by decide +kernel, by decide +kernel⟩
theorem ck_law_values : chkSs Z N_law_values B_law_values (defScope (top 22)) (defBody (top 22)) = true := by decide +kernel
theorem sc_law_values : FnScope N_law_values ["_law_spring_here", "_law_kit_here"] (defScope (top 22)) := ⟨rfl, rfl, rfl, by decide +kernel, rfl, by decide +kernel, by decide +kernel⟩
theorem cklaw : chkSs Z Nlaw Blaw (defScope (top 23)) ((defBody (top 23)).drop 1) = true := by decide +kernel
theorem sclaw : FnScope Nlaw ["_law_script"] (defScope (top 23)) := ⟨rfl, rfl, rfl, by decide +kernel, rfl, by decide +kernel, by decide +kernel⟩
end K01

namespace K01
open PySem Rf
@[simp] theorem zf0 : Z.fs[0]? = some ⟨0, 1, [], [.pos 0]⟩ := rfl
@[simp] theorem zf1 : Z.fs[1]? = some ⟨1, 1, [], [.pos 0]⟩ := rfl
@[simp] theorem zf2 : Z.fs[2]? = some ⟨2, 1, [], [.pos 0]⟩ := rfl
@[simp] theorem zf3 : Z.fs[3]? = some ⟨4, 1, [], [.pos 0]⟩ := rfl
@[simp] theorem zf4 : Z.fs[4]? = some ⟨3, 1, [], [.pos 0]⟩ := rfl
@[simp] theorem zf5 : Z.fs[5]? = some ⟨5, 1, [], [.pos 0]⟩ := rfl
@[simp] theorem zf6 : Z.fs[6]? = some ⟨7, 2, [], [.pos 0, .pos 1]⟩ := rfl
@[simp] theorem zf7 : Z.fs[7]? = some ⟨8, 2, [], [.pos 0, .pos 1]⟩ := rfl
@[simp] theorem zf8 : Z.fs[8]? = some ⟨13, 1, [], [.pos 0]⟩ := rfl
@[simp] theorem zf9 : Z.fs[9]? = some ⟨12, 1, [], [.pos 0]⟩ := rfl
@[simp] theorem zf10 : Z.fs[10]? = some ⟨14, 1, [], [.pos 0]⟩ := rfl
@[simp] theorem zf11 : Z.fs[11]? = some ⟨11, 3, [], [.pos 0, .pos 1, .pos 2]⟩ := rfl
@[simp] theorem zf12 : Z.fs[12]? = some ⟨15, 1, [], [.pos 0]⟩ := rfl
@[simp] theorem zf13 : Z.fs[13]? = some ⟨16, 2, [], [.pos 0, .pos 1]⟩ := rfl
@[simp] theorem zf14 : Z.fs[14]? = some ⟨10, 1, [], [.pos 0]⟩ := rfl
@[simp] theorem zf15 : Z.fs[15]? = some ⟨6, 1, [], [.pos 0]⟩ := rfl
@[simp] theorem zf16 : Z.fs[16]? = some ⟨4, 0, ["thing"], [.kw 0]⟩ := rfl
@[simp] theorem zf17 : Z.fs[17]? = some ⟨2, 0, ["thing"], [.kw 0]⟩ := rfl
@[simp] theorem zf18 : Z.fs[18]? = some ⟨1, 0, ["thing"], [.kw 0]⟩ := rfl
@[simp] theorem zf19 : Z.fs[19]? = some ⟨0, 0, ["thing"], [.kw 0]⟩ := rfl
@[simp] theorem zf20 : Z.fs[20]? = some ⟨6, 0, ["thing"], [.kw 0]⟩ := rfl
@[simp] theorem zf21 : Z.fs[21]? = some ⟨5, 0, ["thing"], [.kw 0]⟩ := rfl
@[simp] theorem zf22 : Z.fs[22]? = some ⟨9, 2, [], [.pos 0, .pos 1]⟩ := rfl
abbrev cl (k : Nat) : Nat → List D → T D := runK Z.gs Z.fs df k
def kits : List D := (cl 12 10 [spr]).leaves
theorem kits_ok : (cl 12 10 [spr]).okT = true := by decide +kernel
theorem kits_wp : (cl 12 10 [spr]).wp fun d => d ∈ kits := T.wp_leaves kits_ok
def isRet (b : Bool) : T D → Bool
  | .ret (.bool c) => b == c
  | _ => false
theorem isRet_eq {b : Bool} {t : T D} (h : isRet b t = true) : t = .ret (.bool b) := by
  unfold isRet at h
  split at h
  · simp at h; rw [h]
  · cases h
def menu : List D := [.int 0, .int 1, .int 2, .int 3, .int 9, .int 10, .int 100, .int (10 ^ 59), .int 5, .int 11, .str "a", .str "b", .str "ab", .str "zzzzzzzz", .str "ann", .str "rye", .str "tea", .str "here", .str "join", .str "atom", .str "x"]
def names : List D := [.str "r", .str "q", .str "ra", .str "likes", .str "sold", .str "join", .str "atom", .str "a", .str "abcdefgh"]
def words : List D := [.str "a", .str "b", .str "ab", .str "zzzzzzzz", .str "ann", .str "rye", .str "tea", .str "here", .str "join", .str "atom", .str "x"]
theorem okd_int {i : Int} : okd (.int i) = true := by simp [okd, PyData.plain, PyData.depth]
theorem x0 {k : Nat} {x : D} (hp : x.plain = true) (hi : isiD x .int = false) : cl (k + 1) 0 [x] = .ret (.bool false) := by
  unfold cl
  rw [runK_code (np := 1) (ns := 1) (body := Bis_integer) rfl rfl (by decide)]
  simp [Bis_integer, exs, ex, ev, enter, hp, hi, outOf, isB, ofB, T.bind]
theorem x1 {k : Nat} {x : D} (hp : x.plain = true) (hi : isiD x .int = false) : cl (k + 2) 1 [x] = .ret (.bool false) := by
  unfold cl
  rw [runK_code (np := 1) (ns := 1) (body := Bis_number) rfl rfl (by decide)]
  have e := x0 (k := k) hp hi
  unfold cl at e
  simp [Bis_number, exs, ex, ev, evs, enter, orStuck, pickAll, pick, e, outOf, isB, ofB, T.bind]
theorem x2 {k : Nat} {x : D} (hp : x.plain = true) (hi : isiD x .str = false) : cl (k + 1) 2 [x] = .ret (.bool false) := by
  unfold cl
  rw [runK_code (np := 1) (ns := 2) (body := Bis_name) rfl rfl (by decide)]
  simp [Bis_name, exs, ex, ev, enter, hp, hi, outOf, isB, ofB, T.bind]
theorem x4 {k : Nat} {x : D} (hp : x.plain = true) (hi : isiD x .int = false) (hs : isiD x .str = false) : cl (k + 3) 4 [x] = .ret (.bool false) := by
  unfold cl
  rw [runK_code (np := 1) (ns := 1) (body := Bis_term) rfl rfl (by decide)]
  have e := x1 (k := k) hp hi
  have e2 := x2 (k := k + 1) hp hs
  unfold cl at e e2
  simp [Bis_term, exs, ex, ev, evs, enter, orStuck, pickAll, pick, e, e2, outOf, isB, ofB, T.bind]
theorem x5l {k : Nat} {x : D} (hp : x.plain = true) (hi : isiD x .tuple = false) : cl (k + 1) 5 [x] = .ret (.bool false) := by
  unfold cl
  rw [runK_code (np := 1) (ns := 2) (body := Bis_terms) rfl rfl (by decide)]
  simp [Bis_terms, exs, ex, ev, enter, hp, hi, outOf, isB, ofB, T.bind]
theorem x5g {k : Nat} {ts : List D} {b : D → Bool} (hp : (PyData.tuple ts).plain = true) (hl : ts.length ≤ sz) (h : ∀ t ∈ ts, cl (k + 3) 4 [t] = .ret (.bool (b t))) : cl (k + 4) 5 [.tuple ts] = .ret (.bool (ts.all b)) := by
  unfold cl at h ⊢
  rw [runK_code (np := 1) (ns := 2) (body := Bis_terms) rfl rfl (by decide)]
  have e : ∀ t ∈ ts, lcTurn (.nm 1) [1] (fun _ => .ret true) (fun ρ' => ev Z.gs Z.fs (runK Z.gs Z.fs df (k + 3)) (.call 3 (.cons (.var 1) .nil) .nil) ρ') (enter 2 [.tuple ts]) t = .ret (some (.bool (b t))) := fun t ht => by
    have e1 := h t ht
    simp [lcTurn, enter, bindTg, wipe, ev, evs, orStuck, pickAll, pick, e1, T.bind]
  have e2 := lcGo_map e
  have e3 : ev Z.gs Z.fs (runK Z.gs Z.fs df (k + 3)) (.blt .all (.lc (.call 3 (.cons (.var 1) .nil) .nil) (.nm 1) (.exp (.var 0)) [((⟨#[116, 101, 114, 109]⟩ : Str), 1)])) (enter 2 [.tuple ts]) = .ret (.bool (ts.all b)) := by
    rw [ev_blt, ev_lc]
    have ei : evI Z.gs Z.fs (runK Z.gs Z.fs df (k + 3)) (.exp (.var 0)) (enter 2 [.tuple ts]) = .ret ts := rfl
    rw [ei, T.bind_ret]
    unfold lcRun
    rw [if_pos hl]
    show ((lcGo (lcTurn (.nm 1) [1] (fun _ => .ret true) (fun ρ' => ev Z.gs Z.fs (runK Z.gs Z.fs df (k + 3)) (.call 3 (.cons (.var 1) .nil) .nil) ρ') (enter 2 [.tuple ts])) ts).bind _).bind _ = _
    rw [e2, T.bind_ret, T.bind_ret]
    show orStuck ((allB (ts.map fun d => .bool (b d))).map fun bs => PyData.bool (bs.all id)) = _
    rw [allB_map]
    simp [orStuck, List.all_map]
  have e4 : ev Z.gs Z.fs (runK Z.gs Z.fs df (k + 3)) (.isi (.var 0) .tuple) (enter 2 [.tuple ts]) = .ret (.bool true) := by
    rw [ev_isi]
    show (if (PyData.tuple ts).plain then ofB true else .stuck) = _
    rw [if_pos hp]
    rfl
  have e5 := ev_and (gs := Z.gs) (fs := Z.fs) (cl := runK Z.gs Z.fs df (k + 3)) (a := .isi (.var 0) .tuple) (b := .blt .all (.lc (.call 3 (.cons (.var 1) .nil) .nil) (.nm 1) (.exp (.var 0)) [((⟨#[116, 101, 114, 109]⟩ : Str), 1)])) (ρ := enter 2 [.tuple ts])
  rw [e4, e3] at e5
  unfold Bis_terms
  rw [exs_ret (e5.trans rfl)]
  rfl
theorem x3t {k : Nat} {ts : List D} (hp : (PyData.tuple ts).plain = true) : cl (k + 1) 3 [.tuple ts] = .ret (.bool (decide (ts.length = 2))) := by
  unfold cl
  rw [runK_code (np := 1) (ns := 1) (body := Bis_pair) rfl rfl (by decide)]
  simp [Bis_pair, exs, ex, ev, enter, hp, outOf, isB, ofB, T.bind, isiD, bltD, cmpD, okd_int, PyData.eqv]
  rw [Bool.eq_iff_iff]
  simp
  omega
theorem x3l {k : Nat} {x : D} (hp : x.plain = true) (hi : isiD x .tuple = false) : cl (k + 1) 3 [x] = .ret (.bool false) := by
  unfold cl
  rw [runK_code (np := 1) (ns := 1) (body := Bis_pair) rfl rfl (by decide)]
  simp [Bis_pair, exs, ex, ev, enter, hp, hi, outOf, isB, ofB, T.bind]
theorem x6n {k : Nat} {x : D} (h : cl (k + 1) 3 [x] = .ret (.bool false)) : cl (k + 2) 6 [x] = .ret (.bool false) := by
  unfold cl at h ⊢
  rw [runK_code (np := 1) (ns := 1) (body := Bis_atom) rfl rfl (by decide)]
  simp [Bis_atom, exs, ex, ev, evs, enter, orStuck, pickAll, pick, h, outOf, isB, ofB, T.bind]
theorem x6a {k : Nat} {a : D} {ts : List D} (h : cl (k + 1) 3 [.tuple [a, .tuple ts]] = .ret (.bool true)) (h1 : cl (k + 1) 2 [a] = .ret (.bool true)) (h2 : cl (k + 1) 5 [.tuple ts] = .ret (.bool true)) : cl (k + 2) 6 [.tuple [a, .tuple ts]] = .ret (.bool true) := by
  unfold cl at h h1 h2 ⊢
  rw [runK_code (np := 1) (ns := 1) (body := Bis_atom) rfl rfl (by decide)]
  have e0 : idxD (.tuple [a, .tuple ts]) (.int 0) = .ret a := rfl
  have e1 : idxD (.tuple [a, .tuple ts]) (.int 1) = .ret (.tuple ts) := rfl
  simp [Bis_atom, exs, ex, ev, evs, enter, orStuck, pickAll, pick, h, h1, h2, e0, e1, outOf, isB, ofB, T.bind]
structure Told (x : D) (b0 b1 b2 b3 b4 b5 : Bool) : Prop where
  sh : shows x = true
  t0 : cl 12 0 [x] = .ret (.bool b0)
  t1 : cl 12 1 [x] = .ret (.bool b1)
  t2 : cl 12 2 [x] = .ret (.bool b2)
  t3 : cl 12 4 [x] = .ret (.bool b3)
  t4 : cl 12 5 [x] = .ret (.bool b4)
  t5 : cl 12 6 [x] = .ret (.bool b5)
def dueOf (b0 b1 b2 b3 b4 b5 : Bool) : D := .list [.bool b0, .bool b1, .bool b2, .bool b3, .bool b4, .bool b5]
def Good (p : D) : Prop := ∃ x b0 b1 b2 b3 b4 b5, p = .tuple [x, dueOf b0 b1 b2 b3 b4 b5] ∧ Told x b0 b1 b2 b3 b4 b5
def toldB (x : D) (b0 b1 b2 b3 b4 b5 : Bool) : Bool := tOk 5 x && (isRet b0 (cl 12 0 [x]) && (isRet b1 (cl 12 1 [x]) && (isRet b2 (cl 12 2 [x]) && (isRet b3 (cl 12 4 [x]) && (isRet b4 (cl 12 5 [x]) && isRet b5 (cl 12 6 [x]))))))
theorem toldB_ok {x : D} {b0 b1 b2 b3 b4 b5 : Bool} (h : toldB x b0 b1 b2 b3 b4 b5 = true) : Told x b0 b1 b2 b3 b4 b5 := by
  unfold toldB at h
  simp only [Bool.and_eq_true] at h
  obtain ⟨h, h0, h1, h2, h3, h4, h5⟩ := h
  exact ⟨tOk_shows h (by decide), isRet_eq h0, isRet_eq h1, isRet_eq h2, isRet_eq h3, isRet_eq h4, isRet_eq h5⟩
def goodB : D → Bool
  | .tuple [x, .list [.bool b0, .bool b1, .bool b2, .bool b3, .bool b4, .bool b5]] => toldB x b0 b1 b2 b3 b4 b5
  | _ => false
theorem goodB_ok {p : D} (h : goodB p = true) : Good p := by
  unfold goodB at h
  split at h
  · exact ⟨_, _, _, _, _, _, _, rfl, toldB_ok h⟩
  · cases h
theorem menu_ok : (menu.all fun t => tOk 0 t && (isRet true (cl 11 4 [t]) && isRet true (cl 10 4 [t]))) = true := by decide +kernel
theorem pairs_ok : (menu.all fun a => menu.all fun b => isRet false (cl 12 6 [.tuple [a, b]]) && isRet false (cl 11 15 [.tuple [a, b]])) = true := by decide +kernel
theorem names_ok : (names.all fun t => tOk 0 t && (isRet true (cl 11 4 [t]) && isRet true (cl 11 2 [t]))) = true := by decide +kernel
theorem menu_at {t : D} (h : t ∈ menu) : tOk 0 t = true ∧ cl 11 4 [t] = .ret (.bool true) ∧ cl 10 4 [t] = .ret (.bool true) := by
  have z := List.all_eq_true.mp menu_ok t h
  simp only [Bool.and_eq_true] at z
  exact ⟨z.1, isRet_eq z.2.1, isRet_eq z.2.2⟩
theorem names_at {t : D} (h : t ∈ names) : tOk 0 t = true ∧ cl 11 4 [t] = .ret (.bool true) ∧ cl 11 2 [t] = .ret (.bool true) := by
  have z := List.all_eq_true.mp names_ok t h
  simp only [Bool.and_eq_true] at z
  exact ⟨z.1, isRet_eq z.2.1, isRet_eq z.2.2⟩
/-- drawn terms -/
def Tms (ts : List D) : Prop := ts.length ≤ 5 ∧ ∀ t ∈ ts, t ∈ menu
theorem Tms.ok {ts : List D} (h : Tms ts) : ∀ t ∈ ts, tOk 0 t = true := fun t ht => (menu_at (h.2 t ht)).1
theorem Tms.plain {ts : List D} (h : Tms ts) : (PyData.tuple ts).plain = true := by
  have := (tOk_all h.ok).1
  simpa [PyData.plain] using this
theorem all_true {b : D → Bool} (ts : List D) (h : ∀ t ∈ ts, b t = true) : ts.all b = true := List.all_eq_true.mpr h
theorem Tms.terms {ts : List D} (h : Tms ts) {k : Nat} (hk : ∀ t ∈ ts, cl (k + 3) 4 [t] = .ret (.bool true)) : cl (k + 4) 5 [.tuple ts] = .ret (.bool true) := by
  have e := x5g (b := fun _ => true) h.plain (Nat.le_trans h.1 (by decide)) hk
  rw [e, all_true ts fun _ _ => rfl]
theorem Tms.pair {ts : List D} (h : Tms ts) : cl 12 6 [.tuple ts] = .ret (.bool false) ∧ (ts.length = 2 → cl 11 15 [.tuple ts] = .ret (.bool false)) := by
  match ts, h with
  | [a, b], h =>
    have z := List.all_eq_true.mp (List.all_eq_true.mp pairs_ok a (h.2 a (by simp))) b (h.2 b (by simp))
    simp only [Bool.and_eq_true] at z
    exact ⟨isRet_eq z.1, fun _ => isRet_eq z.2⟩
  | [], h => exact ⟨x6n (k := 10) (by rw [x3t (k := 10) h.plain]; rfl), fun z => by simp at z⟩
  | [_], h => exact ⟨x6n (k := 10) (by rw [x3t (k := 10) h.plain]; rfl), fun z => by simp at z⟩
  | _ :: _ :: _ :: _, h => exact ⟨x6n (k := 10) (by rw [x3t (k := 10) h.plain]; simp), fun z => by simp at z⟩
theorem Tms.told {ts : List D} (h : Tms ts) : Told (.tuple ts) false false false false true false where
  sh := shows_tuple h.ok (by decide) (Nat.le_trans h.1 (by decide))
  t0 := x0 (k := 11) h.plain rfl
  t1 := x1 (k := 10) h.plain rfl
  t2 := x2 (k := 11) h.plain rfl
  t3 := x4 (k := 9) h.plain rfl rfl
  t4 := h.terms (k := 8) fun t ht => (menu_at (h.2 t ht)).2.1
  t5 := h.pair.1
theorem Tms.toldL {ts : List D} (h : Tms ts) : Told (.list ts) false false false false false false := by
  have hp : (PyData.list ts).plain = true := by simpa [PyData.plain] using (tOk_all h.ok).1
  exact ⟨shows_list h.ok (by decide) (Nat.le_trans h.1 (by decide)), x0 (k := 11) hp rfl, x1 (k := 10) hp rfl, x2 (k := 11) hp rfl, x4 (k := 9) hp rfl rfl, x5l (k := 11) hp rfl, x6n (k := 10) (x3l (k := 10) hp rfl)⟩
theorem Tms.atom {ts : List D} {n : D} (h : Tms ts) (hn : n ∈ names) : Told (.tuple [n, .tuple ts]) false false false false false true := by
  obtain ⟨n1, n2, n3⟩ := names_at hn
  obtain ⟨p1, p2, p3, p4, p5⟩ := tOk_parts n1
  obtain ⟨q1, q2, q3, q4, q5⟩ := tOk_all h.ok
  have hp : (PyData.tuple [n, .tuple ts]).plain = true := by simp [PyData.plain, PyData.plainAll, p1, q1]
  have hl := h.1
  have tt : cl 11 4 [.tuple ts] = .ret (.bool false) := x4 (k := 8) h.plain rfl rfl
  refine ⟨shows_of hp (by simp only [PyData.depth, PyData.depthAll]; omega) (by simp [PyData.showable, PyData.showableAll, p3, q3]) (by simp [PyData.leavesShort, PyData.leavesShortAll, p4, q4]) (by simp only [PyData.weight, PyData.weightAll]; omega), x0 (k := 11) hp rfl, x1 (k := 10) hp rfl, x2 (k := 11) hp rfl, x4 (k := 9) hp rfl rfl, ?_, ?_⟩
  · have e := x5g (k := 8) (ts := [n, .tuple ts]) (b := fun d => match d with | .tuple _ => false | _ => true) hp (by show 2 ≤ sz; decide) fun t ht => by
      rcases List.mem_cons.mp ht with rfl | ht
      · rw [n2]
        have : names.all (fun d => match d with | .tuple _ => false | _ => true) = true := by decide +kernel
        have z := List.all_eq_true.mp this _ hn
        rw [z]
      · rw [List.mem_singleton.mp ht]
        exact tt
    rw [e]
    simp
  · exact x6a (k := 10) (by rw [x3t (k := 10) hp]; rfl) n3 (h.terms (k := 7) fun t ht => (menu_at (h.2 t ht)).2.2)
theorem pick_wp {k : Nat} {xs : List D} (h0 : 0 < xs.length) (h1 : xs.length < 1000000) : (cl (k + 2) 8 [spr, .list xs]).wp fun d => d ∈ xs := by
  unfold cl
  rw [runK_code (np := 2) (ns := 2) (body := B_law_pick) rfl rfl (by decide)]
  have e : runK Z.gs Z.fs df (k + 1) 7 [spr, .int xs.length] = T.dip xs.length (fun r => T.ret (PyData.int r)) := by
    show (if isSpr spr = true ∧ 0 < (xs.length : Int) ∧ (xs.length : Int) < 1000000 then T.dip (xs.length : Int).toNat (fun r => T.ret (PyData.int r)) else T.stuck) = _
    rw [if_pos ⟨rfl, by omega, by omega⟩]
    rfl
  have e2 : ev Z.gs Z.fs (runK Z.gs Z.fs df (k + 1)) (.idx (.var 1) (.call 6 (.cons (.var 0) (.cons (.blt .len (.var 1)) .nil)) .nil)) (enter 2 [spr, .list xs]) = (runK Z.gs Z.fs df (k + 1) 7 [spr, .int xs.length]).bind fun y => idxD (.list xs) y := rfl
  have e3 : exs Z.gs Z.fs (runK Z.gs Z.fs df (k + 1)) B_law_pick (enter 2 [spr, .list xs]) = (((runK Z.gs Z.fs df (k + 1) 7 [spr, .int xs.length]).bind fun y => idxD (.list xs) y).bind fun d => T.ret (Fl.rt d)).bind fun fl => match fl with
    | Fl.nx ρ' => T.ret (Fl.nx ρ')
    | fl => T.ret fl := rfl
  rw [e3, e]
  intro r hr
  have e4 : idxD (.list xs) (.int (r : Int)) = .ret xs[r] := by
    show orStuck (L2.atI xs (r : Int)) = _
    unfold L2.atI L2.ixN
    simp [hr, orStuck]
  show ((((idxD (.list xs) (.int (r : Int))).bind fun d => T.ret (Fl.rt d)).bind _).bind outOf).wp _
  rw [e4]
  exact List.getElem_mem hr
structure KitOk (us cs ts : List D) : Prop where
  u0 : 0 < us.length
  u1 : us.length < 1000000
  um : ∀ u ∈ us, u ∈ menu
  c0 : 0 < cs.length
  c1 : cs.length < 1000000
  cm : ∀ c ∈ cs, c ∈ menu
  cw : ∀ c ∈ cs, c ∈ words
  t0 : 0 < ts.length
  t1 : ts.length < 1000000
  tn : ∀ t ∈ ts, t ∈ names
def kitB : D → Bool
  | .tuple [.list us, .list cs, .list ts] => decide (0 < us.length ∧ us.length < 1000000 ∧ 0 < cs.length ∧ cs.length < 1000000 ∧ 0 < ts.length ∧ ts.length < 1000000) && (us.all (fun u => menu.any (leafEq u)) && (cs.all (fun u => menu.any (leafEq u)) && (cs.all (fun u => words.any (leafEq u)) && ts.all (fun u => names.any (leafEq u)))))
  | _ => false
theorem kitB_ok {d : D} (h : kitB d = true) : ∃ us cs ts, d = .tuple [.list us, .list cs, .list ts] ∧ KitOk us cs ts := by
  unfold kitB at h
  split at h
  · rename_i us cs ts
    simp only [Bool.and_eq_true, decide_eq_true_eq] at h
    obtain ⟨⟨a1, a2, a3, a4, a5, a6⟩, b1, b2, b3, b4⟩ := h
    have f : ∀ {xs l : List D}, xs.all (fun u => l.any (leafEq u)) = true → ∀ u ∈ xs, u ∈ l := fun h u hu => mem_of_leaf (List.all_eq_true.mp h u hu)
    exact ⟨us, cs, ts, rfl, a1, a2, f b1, a3, a4, f b2, f b3, a5, a6, f b4⟩
  · cases h
theorem kit_wp : (cl 12 10 [spr]).wp fun d => ∃ us cs ts, d = .tuple [.list us, .list cs, .list ts] ∧ KitOk us cs ts :=
  T.wp_mono (fun _ h => kitB_ok h) (T.wp_all (p := kitB) (by decide +kernel))
theorem terms_wp {us cs ts : List D} (K : KitOk us cs ts) : (cl 11 11 [spr, .tuple [.list us, .list cs, .list ts], .int 5]).wp fun d => ∃ xs, d = .tuple xs ∧ Tms xs := by
  unfold cl
  rw [runK_code (np := 3) (ns := 5) (body := B_law_terms) rfl rfl (by decide)]
  refine T.wp_bind.mpr ?_
  refine wp_set (Q := fun fl => (outOf fl).wp _) ?_
  intro r hr
  have hr : r < 6 := hr
  refine wp_ret (Q := fun fl => (outOf fl).wp _) ?_
  rw [ev_blt, ev_lc]
  have turn : ∀ d ∈ ((List.range (r : Int).toNat).map fun (i : Nat) => PyData.int (i : Int)), (lcTurn (.nm 4) [4] (fun _ => .ret true) (fun ρ' => ev Z.gs Z.fs (runK Z.gs Z.fs df 10) (.call 7 (.cons (.var 0) (.cons (.ite (.cmp .gt (.call 6 (.cons (.var 0) (.cons (.cst (.int (3))) .nil)) .nil) (.cst (.int (0)))) (.idx (.var 1) (.cst (.int (0)))) (.idx (.var 1) (.cst (.int (1))))) .nil)) .nil) ρ')
      [.val spr, .val (.tuple [.list us, .list cs, .list ts]), .val (.int 5), .val (.int (r : Int)), .no] d).wp fun o => ∃ y, o = some y ∧ y ∈ menu := by
    intro d _ q hq
    have hq : q < 3 := hq
    have A : ((runK Z.gs Z.fs df 10 8 [spr, .list us]).bind fun y => T.ret (some y)).wp fun o => ∃ y, o = some y ∧ y ∈ menu := T.wp_bind.mpr (T.wp_mono (fun y hy => ⟨y, rfl, K.um y hy⟩) (pick_wp (k := 8) K.u0 K.u1))
    have B : ((runK Z.gs Z.fs df 10 8 [spr, .list cs]).bind fun y => T.ret (some y)).wp fun o => ∃ y, o = some y ∧ y ∈ menu := T.wp_bind.mpr (T.wp_mono (fun y hy => ⟨y, rfl, K.cm y hy⟩) (pick_wp (k := 8) K.c0 K.c1))
    match q, hq with
    | 0, _ => exact B
    | 1, _ => exact A
    | 2, _ => exact A
  have w := wp_lcGo turn
  have ei : evI Z.gs Z.fs (runK Z.gs Z.fs df 10) (.rng (.var 3)) [.val spr, .val (.tuple [.list us, .list cs, .list ts]), .val (.int 5), .val (.int (r : Int)), .no] = .ret ((List.range (r : Int).toNat).map fun (i : Nat) => PyData.int (i : Int)) := by
    show (if -(sz : Int) ≤ (r : Int) ∧ (r : Int) ≤ (sz : Int) then T.ret ((List.range (r : Int).toNat).map fun (i : Nat) => PyData.int (i : Int)) else T.stuck) = _
    rw [if_pos]
    unfold sz
    omega
  have ei2 : evI Z.gs Z.fs (runK Z.gs Z.fs df 10) (.rng (.var 3)) ((enter 5 [spr, .tuple [.list us, .list cs, .list ts], .int 5]).set 3 (.val (.int (r : Int)))) = .ret ((List.range (r : Int).toNat).map fun (i : Nat) => PyData.int (i : Int)) := ei
  refine T.wp_bind.mpr ?_
  refine T.wp_bind.mpr ?_
  show (evI Z.gs Z.fs (runK Z.gs Z.fs df 10) (.rng (.var 3)) [.val spr, .val (.tuple [.list us, .list cs, .list ts]), .val (.int 5), .val (.int (r : Int)), .no]).wp _
  rw [ei]
  have hl : ((List.range (r : Int).toNat).map fun (i : Nat) => PyData.int (i : Int)).length = r := by simp
  show (if ((List.range (r : Int).toNat).map fun (i : Nat) => PyData.int (i : Int)).length ≤ sz then _ else T.stuck).wp _
  rw [if_pos (by rw [hl]; unfold sz; omega)]
  refine T.wp_bind.mpr (T.wp_mono (fun ys hy => ?_) w)
  exact ⟨ys, rfl, by rw [hy.1, hl]; omega, hy.2⟩
end K01

namespace K01
open PySem Rf
abbrev inner : Ss := frBody (ssHd (frBody (ssHd Blaw)))
theorem okd_str {x : Str} : okd (.str x) = true := by simp [okd, PyData.plain, PyData.depth]
theorem same_eq {k : Nat} {a : D} (h : shows a = true) : cl (k + 1) 9 [a, a] = .ret (.bool true) := by
  unfold cl
  rw [runK_code (np := 2) (ns := 2) (body := B_law_same) rfl rfl (by decide)]
  simp [B_law_same, exs, ex, ev, enter, outOf, T.bind, ofB, bltD, h, cmpD, okd_str, PyData.eqv]
theorem due_ok : ∀ b0 b1 b2 b3 b4 b5 : Bool, tOk 1 (dueOf b0 b1 b2 b3 b4 b5) = true := by
  intro b0 b1 b2 b3 b4 b5
  simp [tOk, dueOf, PyData.plain, PyData.plainAll, PyData.depth, PyData.depthAll, PyData.showable, PyData.showableAll, PyData.leavesShort, PyData.leavesShortAll, PyData.weight, PyData.weightAll]
theorem dues_ok (b0 b1 b2 b3 b4 b5 : Bool) : shows (.list [dueOf b0 b1 b2 b3 b4 b5, dueOf b0 b1 b2 b3 b4 b5]) = true :=
  shows_list (m := 1) (fun t ht => by
    simp at ht
    rw [ht]
    exact due_ok ..) (by decide) (by show 2 ≤ 20; decide)
theorem inner_ok {x : D} {b0 b1 b2 b3 b4 b5 : Bool} (h : Told x b0 b1 b2 b3 b4 b5) (x2 x5 x6 x7 : SV) :
    ∃ y5 y6 y7, exs Z.gs Z.fs (cl 12) inner [.no, .val spr, x2, .val x, .val (dueOf b0 b1 b2 b3 b4 b5), x5, x6, x7] = .ret (.nx [.no, .val spr, x2, .val x, .val (dueOf b0 b1 b2 b3 b4 b5), y5, y6, y7]) := by
  obtain ⟨sh, t0, t1, t2, t3, t4, t5⟩ := h
  have same := same_eq (k := 11) (dues_ok b0 b1 b2 b3 b4 b5)
  unfold cl at *
  unfold dueOf at same ⊢
  refine ⟨.val (.str x.shown), .val (dueOf b0 b1 b2 b3 b4 b5), .val (dueOf b0 b1 b2 b3 b4 b5), ?_⟩
  simp [inner, Blaw, ssHd, frBody, exs, ex, ev, evs, orStuck, pickAll, pick, t0, t1, t2, t3, t4, t5, sh, same, bltD, binD, T.bind, isB, ofB, cmpD, okd_str, PyData.eqv, sz, dueOf]
end K01

namespace K01
open PySem Rf
variable {c : Nat → List D → T D}
def venv (kit : D) (ps : List D) (x5 x6 x7 : SV) : Rf.Env := [.val spr, .val kit, .val (.bool true), .val (.bool false), .own ps, x5, x6, x7]
def VI (kit : D) (x6 : SV) (n : Nat) (ρ : Rf.Env) : Prop := ∃ ps x5 x7, ρ = venv kit ps x5 x6 x7 ∧ ps.length ≤ n ∧ n < 1000 ∧ ∀ p ∈ ps, Good p
theorem VI.app {kit : D} {x6 : SV} {ps : List D} {x5 x7 : SV} {n : Nat} {e : E} (hp : ∀ p ∈ ps, Good p) (hl : ps.length ≤ n) (hn : n + 1 < 1000) (he : (ev Z.gs Z.fs c e (venv kit ps x5 x6 x7)).wp Good) :
    (exs Z.gs Z.fs c (.cons (.app 4 e) .nil) (venv kit ps x5 x6 x7)).wp fun fl => ∃ ρ', fl = .nx ρ' ∧ VI kit x6 (n + 1) ρ' := by
  refine wp_cons ?_
  show ((ev Z.gs Z.fs c e (venv kit ps x5 x6 x7)).bind fun d => if ps.length < sz then T.ret (Fl.nx ((venv kit ps x5 x6 x7).set 4 (.own (ps ++ [d])))) else .stuck).wp _
  refine T.wp_bind.mpr (T.wp_mono (fun d hd => ?_) he)
  rw [if_pos (by unfold sz; omega)]
  refine ⟨_, rfl, wp_nil ⟨_, rfl, ps ++ [d], x5, x7, rfl, by simp; omega, hn, fun p hm => ?_⟩⟩
  rcases List.mem_append.mp hm with hm | hm
  · exact hp p hm
  · rw [List.mem_singleton.mp hm]; exact hd
abbrev st (n : Nat) : S := ssHd (ssDrop n B_law_values)
def ps0 : List D := match exs Z.gs Z.fs (cl 11) (ssTake 4 B_law_values) (enter 8 [spr, .none]) with
  | .ret (.nx [_, _, _, _, .own ps, _, _, _]) => ps
  | _ => []
theorem ps0_ok : (ps0.all goodB && decide (ps0.length ≤ 7)) = true := by decide +kernel
theorem pre4 (kit : D) : exs Z.gs Z.fs c (ssTake 4 B_law_values) (enter 8 [spr, kit]) = .ret (.nx (venv kit ps0 .no .no .no)) := by
  kernel_rfl
def itemsAt (n : Nat) (x6 : SV) : List D := match evI Z.gs Z.fs (cl 11) (frIt (st n)) [.val spr, .val .none, .val (.bool true), .val (.bool false), .own [], .no, x6, .no] with
  | .ret ds => ds
  | _ => []
/-- a loop by slot 5 -/
theorem loop5 {kit : D} {x6 : SV} {it : It} {e : E} {r : Ss} {P : D → Prop} {n m : Nat} {ρ : Rf.Env} {Q : Fl → Prop} (hn : n + m < 999) (h0 : VI kit x6 n ρ) (hi : ∀ ps x5 x7, (evI Z.gs Z.fs c it (venv kit ps x5 x6 x7)).wp fun ds => ds.length ≤ m ∧ ∀ d ∈ ds, P d)
    (he : ∀ d ps x7, P d → (ev Z.gs Z.fs c e (venv kit ps (.val d) x6 x7)).wp Good) (hr : ∀ ρ, VI kit x6 (n + m) ρ → (exs Z.gs Z.fs c r ρ).wp Q) : (exs Z.gs Z.fs c (.cons (.fr (.nm 5) it (.cons (.app 4 e) .nil)) r) ρ).wp Q := by
  refine wp_cons ?_
  have h0' := h0
  obtain ⟨ps, x5, x7, rfl, l1, l2, g⟩ := h0
  unfold ex
  refine T.wp_bind.mpr (T.wp_mono (fun ds hd => ?_) (hi ps x5 x7))
  obtain ⟨d1, d2⟩ := hd
  refine T.wp_mono (fun fl hf => ?_) (wp_forGoN (I := VI kit x6) (n := n) h0' fun d hm i ρ hi hI => ?_)
  · obtain ⟨ρ', e, ps', y5, y7, e2, q1, q2, q3⟩ := hf
    exact ⟨ρ', e, hr ρ' ⟨ps', y5, y7, e2, by omega, by omega, q3⟩⟩
  · obtain ⟨ps', y5, y7, rfl, q1, q2, q3⟩ := hI
    exact VI.app (x5 := .val d) q3 q1 (by omega) (he d ps' y7 (d2 d hm))
/-- a loop by slot 7 -/
theorem loop7 {kit : D} {x6 : SV} {it : It} {e : E} {r : Ss} {P : D → Prop} {n m : Nat} {ρ : Rf.Env} {Q : Fl → Prop} (hn : n + m < 999) (h0 : VI kit x6 n ρ) (hi : ∀ ps x5 x7, (evI Z.gs Z.fs c it (venv kit ps x5 x6 x7)).wp fun ds => ds.length ≤ m ∧ ∀ d ∈ ds, P d)
    (he : ∀ d ps x5, P d → (ev Z.gs Z.fs c e (venv kit ps x5 x6 (.val d))).wp Good) (hr : ∀ ρ, VI kit x6 (n + m) ρ → (exs Z.gs Z.fs c r ρ).wp Q) : (exs Z.gs Z.fs c (.cons (.fr (.nm 7) it (.cons (.app 4 e) .nil)) r) ρ).wp Q := by
  refine wp_cons ?_
  have h0' := h0
  obtain ⟨ps, x5, x7, rfl, l1, l2, g⟩ := h0
  unfold ex
  refine T.wp_bind.mpr (T.wp_mono (fun ds hd => ?_) (hi ps x5 x7))
  obtain ⟨d1, d2⟩ := hd
  refine T.wp_mono (fun fl hf => ?_) (wp_forGoN (I := VI kit x6) (n := n) h0' fun d hm i ρ hi hI => ?_)
  · obtain ⟨ρ', e, ps', y5, y7, e2, q1, q2, q3⟩ := hf
    exact ⟨ρ', e, hr ρ' ⟨ps', y5, y7, e2, by omega, by omega, q3⟩⟩
  · obtain ⟨ps', y5, y7, rfl, q1, q2, q3⟩ := hI
    exact VI.app (x7 := .val d) q3 q1 (by omega) (he d ps' y5 (d2 d hm))
theorem loop5W {kit : D} {x6 : SV} {it : It} {e : E} {r : Ss} {P : D → Prop} {n m : Nat} {ρ : Rf.Env} {Q : Fl → Prop} (hn : n + m < 999) (h0 : VI kit x6 n ρ) (hi : ∀ ps x5 x7, WP (evI Z.gs Z.fs c it (venv kit ps x5 x6 x7)) fun ds => ds.length ≤ m ∧ ∀ d ∈ ds, P d)
    (he : ∀ d ps x7, P d → WP (ev Z.gs Z.fs c e (venv kit ps (.val d) x6 x7)) Good) (hr : ∀ ρ, VI kit x6 (n + m) ρ → WP (exs Z.gs Z.fs c r ρ) Q) : WP (exs Z.gs Z.fs c (.cons (.fr (.nm 5) it (.cons (.app 4 e) .nil)) r) ρ) Q :=
  WP.mk (loop5 hn h0 (fun ps x5 x7 => (hi ps x5 x7).out) (fun d ps y h => (he d ps y h).out) fun ρ v => (hr ρ v).out)
theorem loop7W {kit : D} {x6 : SV} {it : It} {e : E} {r : Ss} {P : D → Prop} {n m : Nat} {ρ : Rf.Env} {Q : Fl → Prop} (hn : n + m < 999) (h0 : VI kit x6 n ρ) (hi : ∀ ps x5 x7, WP (evI Z.gs Z.fs c it (venv kit ps x5 x6 x7)) fun ds => ds.length ≤ m ∧ ∀ d ∈ ds, P d)
    (he : ∀ d ps x5, P d → WP (ev Z.gs Z.fs c e (venv kit ps x5 x6 (.val d))) Good) (hr : ∀ ρ, VI kit x6 (n + m) ρ → WP (exs Z.gs Z.fs c r ρ) Q) : WP (exs Z.gs Z.fs c (.cons (.fr (.nm 7) it (.cons (.app 4 e) .nil)) r) ρ) Q :=
  WP.mk (loop7 hn h0 (fun ps x5 x7 => (hi ps x5 x7).out) (fun d ps y h => (he d ps y h).out) fun ρ v => (hr ρ v).out)
theorem wp_setW {i : Nat} {e : E} {r : Ss} {ρ : Rf.Env} {Q : Fl → Prop} (h : WP (ev Z.gs Z.fs c e ρ) fun d => WP (exs Z.gs Z.fs c r (ρ.set i (.val d))) Q) : WP (exs Z.gs Z.fs c (.cons (.set i e) r) ρ) Q :=
  WP.mk (wp_set (T.wp_mono (fun _ z => z.out) h.out))
theorem WP_mono {α : Type} {t : T α} {P Q : α → Prop} (h : ∀ a, P a → Q a) (w : WP t P) : WP t Q := WP.mk (T.wp_mono h w.out)
theorem words_told : ((words ++ names).all fun d => toldB d false false true true false false) = true := by decide +kernel
theorem it5_told : ((itemsAt 5 .no).all fun d => toldB d false false false false false false) = true := by decide +kernel
def i7 : List D := (itemsAt 7 (.val (.tuple []))).dropLast
def i8 : List D := (itemsAt 8 (.val (.tuple []))).dropLast
def i10 : List D := itemsAt 10 .no
def i11 : List D := itemsAt 11 .no
theorem i7_told : (i7.all fun d => toldB d false false false false true false && (match d with
  | .tuple xs => !decide (xs.length = 2) || isRet false (cl 11 15 [d])
  | _ => false)) = true := by decide +kernel
theorem i8_told : (i8.all fun d => toldB d false false false false false false) = true := by decide +kernel
theorem i9_told : ([PyData.tuple [.str "r", .tuple []], .tuple [.str "abcdefgh", .tuple [.int 0, .str "a", .int 0]]].all fun d => toldB d false false false false false true) = true := by decide +kernel
theorem i10_told : (i10.all fun d => toldB d false false false false false false) = true := by decide +kernel
theorem i11_told : (i11.all fun d => toldB d false false false false false false) = true := by decide +kernel
theorem it5_eq (kit : D) (ps : List D) (x5 x6 x7 : SV) : evI Z.gs Z.fs c (frIt (st 5)) (venv kit ps x5 x6 x7) = .ret (itemsAt 5 .no) := by kernel_rfl
theorem it7_eq (kit : D) (ps xs : List D) (x5 x7 : SV) : evI Z.gs Z.fs c (frIt (st 7)) (venv kit ps x5 (.val (.tuple xs)) x7) = .ret (i7 ++ [.tuple xs]) := by kernel_rfl
theorem it8_eq (kit : D) (ps xs : List D) (x5 x7 : SV) : evI Z.gs Z.fs c (frIt (st 8)) (venv kit ps x5 (.val (.tuple xs)) x7) = .ret (i8 ++ [.list xs]) := by kernel_rfl
theorem it10_eq (kit : D) (ps : List D) (x5 x6 x7 : SV) : evI Z.gs Z.fs c (frIt (st 10)) (venv kit ps x5 x6 x7) = .ret i10 := by kernel_rfl
theorem it11_eq (kit : D) (ps : List D) (x5 x6 x7 : SV) : evI Z.gs Z.fs c (frIt (st 11)) (venv kit ps x5 x6 x7) = .ret i11 := by kernel_rfl
end K01

namespace K01
open PySem Rf
variable {c : Nat → List D → T D}
theorem good_told {d : D} {b0 b1 b2 b3 b4 b5 : Bool} (h : Told d b0 b1 b2 b3 b4 b5) : Good (.tuple [d, dueOf b0 b1 b2 b3 b4 b5]) := ⟨d, b0, b1, b2, b3, b4, b5, rfl, h⟩
theorem all_told {l : List D} {b0 b1 b2 b3 b4 b5 : Bool} (h : (l.all fun d => toldB d b0 b1 b2 b3 b4 b5) = true) : ∀ d ∈ l, Told d b0 b1 b2 b3 b4 b5 := fun d hd => toldB_ok (List.all_eq_true.mp h d hd)
theorem mem_app1 {l : List D} {x : D} {P : D → Prop} (h : ∀ d ∈ l, P d) (hx : P x) : ∀ d ∈ l ++ [x], P d := fun d hd => by
  rcases List.mem_append.mp hd with hd | hd
  · exact h d hd
  · rw [List.mem_singleton.mp hd]; exact hx
/-- what the loop of the tuples asks -/
def P7 (c : Nat → List D → T D) (d : D) : Prop := ∃ xs, d = .tuple xs ∧ Told d false false false false true false ∧ (xs.length = 2 → c 15 [d] = .ret (.bool false))
theorem i7_P : ∀ d ∈ i7, P7 (cl 11) d := fun d hd => by
  have h := List.all_eq_true.mp i7_told d hd
  rw [Bool.and_eq_true] at h
  obtain ⟨h1, h2⟩ := h
  split at h2
  · rename_i xs
    refine ⟨xs, rfl, toldB_ok h1, fun e => ?_⟩
    rw [decide_eq_true e] at h2
    exact isRet_eq (by simpa using h2)
  · cases h2
theorem ret_wp {t : T D} {a : D} {P : D → Prop} (e : t = .ret a) (h : P a) : t.wp P := by
  rw [e]
  exact h
theorem rets_wp {t : T (List D)} {a : List D} {P : List D → Prop} (e : t = .ret a) (h : P a) : t.wp P := by
  rw [e]
  exact h
section
variable {kit : D} {ps xs : List D} {x5 x6 : SV}
theorem ec7 : ev Z.gs Z.fs c (.cmp .eq (.blt .len (.var 7)) (.cst (.int (2)))) (venv kit ps x5 x6 (.val (.tuple xs))) = .ret (.bool (decide (xs.length = 2))) := by
  have e : ((xs.length : Int) == 2) = decide (xs.length = 2) := by
    rw [Bool.eq_iff_iff]
    simp
    omega
  simp [ev, venv, bltD, cmpD, okd_int, PyData.eqv, ofB, T.bind, e]
theorem ek7 : ev Z.gs Z.fs c (.call 12 (.cons (.var 7) .nil) .nil) (venv kit ps x5 x6 (.val (.tuple xs))) = c 15 [.tuple xs] := by
  simp [ev, evs, venv, orStuck, pickAll, pick, T.bind]
theorem ea7 (h2 : xs.length = 2 → c 15 [.tuple xs] = .ret (.bool false)) : ev Z.gs Z.fs c (.and (.cmp .eq (.blt .len (.var 7)) (.cst (.int (2)))) (.call 12 (.cons (.var 7) .nil) .nil)) (venv kit ps x5 x6 (.val (.tuple xs))) = .ret (.bool false) := by
  rw [ev_and, ec7, ek7]
  by_cases e : xs.length = 2
  · rw [decide_eq_true e, h2 e]
    rfl
  · rw [decide_eq_false e]
    rfl
end
theorem v2 {kit : D} {ps : List D} {x5 x6 x7 : SV} : ev Z.gs Z.fs c (.var 2) (venv kit ps x5 x6 x7) = .ret (.bool true) := ev_var_ret rfl
theorem v3 {kit : D} {ps : List D} {x5 x6 x7 : SV} : ev Z.gs Z.fs c (.var 3) (venv kit ps x5 x6 x7) = .ret (.bool false) := ev_var_ret rfl
theorem v7 {kit d : D} {ps : List D} {x5 x6 : SV} : ev Z.gs Z.fs c (.var 7) (venv kit ps x5 x6 (.val d)) = .ret d := ev_var_ret rfl
def appE : S → E
  | .fr _ _ (.cons (.app _ e) _) => e
  | _ => .cst .none
theorem s4 : ssDrop 4 B_law_values = .cons (.fr (.nm 5) (frIt (st 4)) (.cons (.app 4 (appE (st 4))) .nil)) (ssDrop 5 B_law_values) := rfl
theorem s5 : ssDrop 5 B_law_values = .cons (.fr (.nm 5) (frIt (st 5)) (.cons (.app 4 (appE (st 5))) .nil)) (ssDrop 6 B_law_values) := rfl
theorem s6 : ssDrop 6 B_law_values = .cons (.set 6 (.call 11 (.cons (.var 0) (.cons (.var 1) (.cons (.cst (.int (5))) .nil))) .nil)) (ssDrop 7 B_law_values) := rfl
theorem s7 : ssDrop 7 B_law_values = .cons (.fr (.nm 7) (frIt (st 7)) (.cons (.app 4 (.tup (.cons (.var 7) (.cons (.lst (.cons (.var 3) (.cons (.var 3) (.cons (.var 3) (.cons (.var 3) (.cons (.var 2) (.cons (.and (.cmp .eq (.blt .len (.var 7)) (.cst (.int (2)))) (.call 12 (.cons (.var 7) .nil) .nil)) .nil))))))) .nil)))) .nil)) (ssDrop 8 B_law_values) := rfl
theorem s8 : ssDrop 8 B_law_values = .cons (.fr (.nm 7) (frIt (st 8)) (.cons (.app 4 (appE (st 8))) .nil)) (ssDrop 9 B_law_values) := rfl
theorem s9 : ssDrop 9 B_law_values = .cons (.fr (.nm 7) (frIt (st 9)) (.cons (.app 4 (appE (st 9))) .nil)) (ssDrop 10 B_law_values) := rfl
theorem s10 : ssDrop 10 B_law_values = .cons (.fr (.nm 7) (frIt (st 10)) (.cons (.app 4 (appE (st 10))) .nil)) (ssDrop 11 B_law_values) := rfl
theorem s11 : ssDrop 11 B_law_values = .cons (.fr (.nm 7) (frIt (st 11)) (.cons (.app 4 (appE (st 11))) .nil)) (ssDrop 12 B_law_values) := rfl
theorem s12 : ssDrop 12 B_law_values = .cons (.frz 4) (.cons (.ret (.var 4)) .nil) := rfl
theorem it4 : frIt (st 4) = .exp (.lst (.cons (.cst (.str "a")) (.cons (.cst (.str "zzzzzzzz")) (.cons (.cst (.str "join")) (.cons (.call 7 (.cons (.var 0) (.cons (.idx (.var 1) (.cst (.int (1)))) .nil)) .nil) (.cons (.call 7 (.cons (.var 0) (.cons (.idx (.var 1) (.cst (.int (2)))) .nil)) .nil) .nil)))))) := rfl
theorem it9 : frIt (st 9) = .exp (.lst (.cons (.tup (.cons (.cst (.str "r")) (.cons (.tup .nil) .nil))) (.cons (.tup (.cons (.cst (.str "abcdefgh")) (.cons (.tup (.cons (.cst (.int (0))) (.cons (.cst (.str "a")) (.cons (.cst (.int (0))) .nil)))) .nil))) (.cons (.tup (.cons (.call 7 (.cons (.var 0) (.cons (.idx (.var 1) (.cst (.int (2)))) .nil)) .nil) (.cons (.var 6) .nil))) .nil)))) := rfl
section
variable (us cs ts ps : List D) (kit d : D) (x5 x6 x7 : SV)
theorem e4_eq : ev Z.gs Z.fs c (appE (st 4)) (venv kit ps (.val d) x6 x7) = .ret (.tuple [d, dueOf false false true true false false]) := by kernel_rfl
theorem e5_eq : ev Z.gs Z.fs c (appE (st 5)) (venv kit ps (.val d) x6 x7) = .ret (.tuple [d, dueOf false false false false false false]) := by kernel_rfl
theorem e8_eq : ev Z.gs Z.fs c (appE (st 8)) (venv kit ps x5 x6 (.val d)) = .ret (.tuple [d, dueOf false false false false false false]) := by kernel_rfl
theorem e9_eq : ev Z.gs Z.fs c (appE (st 9)) (venv kit ps x5 x6 (.val d)) = .ret (.tuple [d, dueOf false false false false false true]) := by kernel_rfl
theorem e10_eq : ev Z.gs Z.fs c (appE (st 10)) (venv kit ps x5 x6 (.val d)) = .ret (.tuple [d, dueOf false false false false false false]) := by kernel_rfl
theorem e11_eq : ev Z.gs Z.fs c (appE (st 11)) (venv kit ps x5 x6 (.val d)) = .ret (.tuple [d, dueOf false false false false false false]) := by kernel_rfl
theorem pk1 : ev Z.gs Z.fs c (.call 7 (.cons (.var 0) (.cons (.idx (.var 1) (.cst (.int (1)))) .nil)) .nil) (venv (.tuple [.list us, .list cs, .list ts]) ps x5 x6 x7) = c 8 [spr, .list cs] := by
  have e : idxD (.tuple [.list us, .list cs, .list ts]) (.int 1) = .ret (.list cs) := rfl
  simp [ev, evs, venv, orStuck, pickAll, pick, e, T.bind]
theorem pk2 : ev Z.gs Z.fs c (.call 7 (.cons (.var 0) (.cons (.idx (.var 1) (.cst (.int (2)))) .nil)) .nil) (venv (.tuple [.list us, .list cs, .list ts]) ps x5 x6 x7) = c 8 [spr, .list ts] := by
  have e : idxD (.tuple [.list us, .list cs, .list ts]) (.int 2) = .ret (.list ts) := rfl
  simp [ev, evs, venv, orStuck, pickAll, pick, e, T.bind]
theorem ct : ev Z.gs Z.fs c (.call 11 (.cons (.var 0) (.cons (.var 1) (.cons (.cst (.int (5))) .nil))) .nil) (venv kit ps x5 x6 x7) = c 11 [spr, kit, .int 5] := by
  simp [ev, evs, venv, orStuck, pickAll, pick, T.bind]
end
theorem len5 : (itemsAt 5 .no).length ≤ 20 := by decide +kernel
theorem len7 : i7.length ≤ 19 := by decide +kernel
theorem len8 : i8.length ≤ 19 := by decide +kernel
theorem len10 : i10.length ≤ 20 := by decide +kernel
theorem len11 : i11.length ≤ 20 := by decide +kernel
theorem w_all : ([PyData.str "a", .str "zzzzzzzz", .str "join"].all fun d => (words ++ names).any (leafEq d)) = true := by decide +kernel
theorem it4_wp {us cs ts : List D} (K : KitOk us cs ts) (hp : ∀ xs : List D, 0 < xs.length → xs.length < 1000000 → (c 8 [spr, .list xs]).wp fun d => d ∈ xs) (ps : List D) (x5 x6 x7 : SV) : WP (evI Z.gs Z.fs c (frIt (st 4)) (venv (.tuple [.list us, .list cs, .list ts]) ps x5 x6 x7)) fun ds => ds.length ≤ 5 ∧ ∀ d ∈ ds, d ∈ words ++ names := by
  refine WP.mk ?_
  rw [it4]
  refine wp_lst ?_
  refine wp_evs_cons ?_
  refine wp_cst ?_
  refine wp_evs_cons ?_
  refine wp_cst ?_
  refine wp_evs_cons ?_
  refine wp_cst ?_
  refine wp_evs_cons ?_
  rw [pk1]
  refine T.wp_mono (fun w1 h1 => ?_) (hp cs K.c0 K.c1)
  refine wp_evs_cons ?_
  rw [pk2]
  refine T.wp_mono (fun w2 h2 => ?_) (hp ts K.t0 K.t1)
  refine wp_evs_nil ⟨by show 5 ≤ 5; decide, fun d hd => ?_⟩
  have wa := fun d hd => mem_of_leaf (List.all_eq_true.mp w_all d hd)
  simp only [List.mem_cons, List.not_mem_nil, or_false] at hd
  rcases hd with rfl | rfl | rfl | rfl | rfl
  · exact wa _ (by simp)
  · exact wa _ (by simp)
  · exact wa _ (by simp)
  · exact List.mem_append.mpr (.inl (K.cw _ h1))
  · exact List.mem_append.mpr (.inr (K.tn _ h2))
theorem it9_wp {us cs ts xs : List D} (K : KitOk us cs ts) (hx : Tms xs) (hp : ∀ xs : List D, 0 < xs.length → xs.length < 1000000 → (c 8 [spr, .list xs]).wp fun d => d ∈ xs) (ps : List D) (x5 x7 : SV) :
    WP (evI Z.gs Z.fs c (frIt (st 9)) (venv (.tuple [.list us, .list cs, .list ts]) ps x5 (.val (.tuple xs)) x7)) fun ds => ds.length ≤ 3 ∧ ∀ d ∈ ds, Told d false false false false false true := by
  refine WP.mk ?_
  rw [it9]
  refine wp_lst ?_
  refine wp_evs_cons ?_
  refine ret_wp (a := .tuple [.str "r", .tuple []]) rfl ?_
  refine wp_evs_cons ?_
  refine ret_wp (a := .tuple [.str "abcdefgh", .tuple [.int 0, .str "a", .int 0]]) rfl ?_
  refine wp_evs_cons ?_
  refine wp_tup ?_
  refine wp_evs_cons ?_
  rw [pk2]
  refine T.wp_mono (fun w2 h2 => ?_) (hp ts K.t0 K.t1)
  refine wp_evs_cons ?_
  refine ret_wp (a := .tuple xs) (ev_var_ret rfl) ?_
  refine wp_evs_nil ?_
  refine wp_evs_nil ?_
  refine ⟨by show 3 ≤ 3; decide, fun d hd => ?_⟩
  have wa := all_told i9_told
  simp only [List.mem_cons, List.not_mem_nil, or_false] at hd
  rcases hd with rfl | rfl | rfl
  · exact wa _ (by simp)
  · exact wa _ (by simp)
  · exact hx.atom (K.tn _ h2)
end K01

namespace K01
open PySem Rf
variable {c : Nat → List D → T D}
theorem e7g {G : D → Prop} {kit : D} {ps xs : List D} {x5 x6 : SV} (hG : G (.tuple [.tuple xs, dueOf false false false false true false])) (h2 : xs.length = 2 → c 15 [.tuple xs] = .ret (.bool false)) :
    WP (ev Z.gs Z.fs c (.tup (.cons (.var 7) (.cons (.lst (.cons (.var 3) (.cons (.var 3) (.cons (.var 3) (.cons (.var 3) (.cons (.var 2) (.cons (.and (.cmp .eq (.blt .len (.var 7)) (.cst (.int (2)))) (.call 12 (.cons (.var 7) .nil) .nil)) .nil))))))) .nil))) (venv kit ps x5 x6 (.val (.tuple xs)))) G := by
  have el := ev_lst_ret (evs_cons_ret (v3 (c := c) (kit := kit) (ps := ps) (x5 := x5) (x6 := x6) (x7 := .val (.tuple xs))) (evs_cons_ret v3 (evs_cons_ret v3 (evs_cons_ret v3 (evs_cons_ret v2 (evs_cons_ret (ea7 h2) evs_nil_ret))))))
  have et := ev_tup_ret (evs_cons_ret v7 (evs_cons_ret el evs_nil_ret))
  exact WP_ret et hG
theorem e7 {kit : D} {ps : List D} {x5 x6 : SV} {d : D} (h : P7 c d) :
    WP (ev Z.gs Z.fs c (.tup (.cons (.var 7) (.cons (.lst (.cons (.var 3) (.cons (.var 3) (.cons (.var 3) (.cons (.var 3) (.cons (.var 2) (.cons (.and (.cmp .eq (.blt .len (.var 7)) (.cst (.int (2)))) (.call 12 (.cons (.var 7) .nil) .nil)) .nil))))))) .nil))) (venv kit ps x5 x6 (.val d))) Good := by
  cases h with
  | intro xs h =>
    have e := h.1
    have td := h.2.1
    have h2 := h.2.2
    subst e
    have k := e7g (c := c) (kit := kit) (ps := ps) (x5 := x5) (x6 := x6) (G := Good) (good_told td) h2
    exact k
def QV : Fl → Prop := fun fl => ∃ ps, fl = .rt (.list ps) ∧ ∀ p ∈ ps, Good p
section
variable {kit : D} {x6 : SV} {xs : List D} {ρ : Rf.Env}
theorem k12 {n : Nat} (v : VI kit x6 n ρ) : WP (exs Z.gs Z.fs c (ssDrop 12 B_law_values) ρ) QV := by
  have h := v
  unfold VI at h
  have ⟨ps, y5, y7, e, h1, h2, g⟩ := h
  rw [e, s12]
  have k : exs Z.gs Z.fs c (.cons (.frz 4) (.cons (.ret (.var 4)) .nil)) (venv kit ps y5 x6 y7) = .ret (.rt (.list ps)) := by kernel_rfl
  exact WP_ret k ⟨ps, rfl, g⟩
theorem k11 (v : VI kit x6 95 ρ) : WP (exs Z.gs Z.fs c (ssDrop 11 B_law_values) ρ) QV := by
  have hi : ∀ ps x5 x7, WP (evI Z.gs Z.fs c (frIt (st 11)) (venv kit ps x5 x6 x7)) fun ds => ds.length ≤ 20 ∧ ∀ d ∈ ds, Told d false false false false false false := by
    intro ps x5 x7
    refine WP_ret (it11_eq ..) ⟨len11, all_told i11_told⟩
  have he : ∀ d ps x5, Told d false false false false false false → WP (ev Z.gs Z.fs c (appE (st 11)) (venv kit ps x5 x6 (.val d))) Good := by
    intro d ps x5 hd
    exact WP_ret (e11_eq ..) (good_told hd)
  have k := loop7W (c := c) (r := ssDrop 12 B_law_values) (Q := QV) (n := 95) (m := 20) (by decide) v hi he (fun ρ w => k12 w)
  rw [s11]
  exact k
theorem k10 (v : VI kit x6 75 ρ) : WP (exs Z.gs Z.fs c (ssDrop 10 B_law_values) ρ) QV := by
  have hi : ∀ ps x5 x7, WP (evI Z.gs Z.fs c (frIt (st 10)) (venv kit ps x5 x6 x7)) fun ds => ds.length ≤ 20 ∧ ∀ d ∈ ds, Told d false false false false false false := by
    intro ps x5 x7
    refine WP_ret (it10_eq ..) ⟨len10, all_told i10_told⟩
  have he : ∀ d ps x5, Told d false false false false false false → WP (ev Z.gs Z.fs c (appE (st 10)) (venv kit ps x5 x6 (.val d))) Good := by
    intro d ps x5 hd
    exact WP_ret (e10_eq ..) (good_told hd)
  have k := loop7W (c := c) (r := ssDrop 11 B_law_values) (Q := QV) (n := 75) (m := 20) (by decide) v hi he (fun ρ w => k11 w)
  rw [s10]
  exact k
end
section
variable {us cs ts xs : List D} {ρ : Rf.Env}
theorem k9 (K : KitOk us cs ts) (hx : Tms xs) (hp : ∀ xs : List D, 0 < xs.length → xs.length < 1000000 → (c 8 [spr, .list xs]).wp fun d => d ∈ xs) (v : VI (.tuple [.list us, .list cs, .list ts]) (.val (.tuple xs)) 72 ρ) : WP (exs Z.gs Z.fs c (ssDrop 9 B_law_values) ρ) QV := by
  have hi := fun ps x5 x7 => it9_wp (c := c) K hx hp ps x5 x7
  have he : ∀ d ps x5, Told d false false false false false true → WP (ev Z.gs Z.fs c (appE (st 9)) (venv (.tuple [.list us, .list cs, .list ts]) ps x5 (.val (.tuple xs)) (.val d))) Good := by
    intro d ps x5 hd
    exact WP_ret (e9_eq ..) (good_told hd)
  have k := loop7W (c := c) (r := ssDrop 10 B_law_values) (Q := QV) (n := 72) (m := 3) (by decide) v hi he (fun ρ w => k10 w)
  rw [s9]
  exact k
theorem k8 (K : KitOk us cs ts) (hx : Tms xs) (hp : ∀ xs : List D, 0 < xs.length → xs.length < 1000000 → (c 8 [spr, .list xs]).wp fun d => d ∈ xs) (v : VI (.tuple [.list us, .list cs, .list ts]) (.val (.tuple xs)) 52 ρ) : WP (exs Z.gs Z.fs c (ssDrop 8 B_law_values) ρ) QV := by
  have hi : ∀ ps x5 x7, WP (evI Z.gs Z.fs c (frIt (st 8)) (venv (.tuple [.list us, .list cs, .list ts]) ps x5 (.val (.tuple xs)) x7)) fun ds => ds.length ≤ 20 ∧ ∀ d ∈ ds, Told d false false false false false false := by
    intro ps x5 x7
    refine WP_ret (it8_eq ..) ⟨by rw [List.length_append]; have := len8; simp; omega, mem_app1 (all_told i8_told) hx.toldL⟩
  have he : ∀ d ps x5, Told d false false false false false false → WP (ev Z.gs Z.fs c (appE (st 8)) (venv (.tuple [.list us, .list cs, .list ts]) ps x5 (.val (.tuple xs)) (.val d))) Good := by
    intro d ps x5 hd
    exact WP_ret (e8_eq ..) (good_told hd)
  have k := loop7W (c := c) (r := ssDrop 9 B_law_values) (Q := QV) (n := 52) (m := 20) (by decide) v hi he (fun ρ w => k9 K hx hp w)
  rw [s8]
  exact k
theorem k7 (K : KitOk us cs ts) (hx : Tms xs) (hp : ∀ xs : List D, 0 < xs.length → xs.length < 1000000 → (c 8 [spr, .list xs]).wp fun d => d ∈ xs) (h7 : ∀ d ∈ i7, P7 c d) (h7x : xs.length = 2 → c 15 [.tuple xs] = .ret (.bool false)) (v : VI (.tuple [.list us, .list cs, .list ts]) (.val (.tuple xs)) 32 ρ) : WP (exs Z.gs Z.fs c (ssDrop 7 B_law_values) ρ) QV := by
  have hi : ∀ ps x5 x7, WP (evI Z.gs Z.fs c (frIt (st 7)) (venv (.tuple [.list us, .list cs, .list ts]) ps x5 (.val (.tuple xs)) x7)) fun ds => ds.length ≤ 20 ∧ ∀ d ∈ ds, P7 c d := by
    intro ps x5 x7
    refine WP_ret (it7_eq ..) ⟨by rw [List.length_append]; have := len7; simp; omega, mem_app1 h7 ⟨xs, rfl, hx.told, h7x⟩⟩
  have he := fun d ps x5 (hd : P7 c d) => e7 (c := c) (kit := .tuple [.list us, .list cs, .list ts]) (ps := ps) (x5 := x5) (x6 := .val (.tuple xs)) hd
  have k := loop7W (c := c) (r := ssDrop 8 B_law_values) (Q := QV) (n := 32) (m := 20) (by decide) v hi he (fun ρ w => k8 K hx hp w)
  rw [s7]
  exact k
theorem k6 (K : KitOk us cs ts) (hp : ∀ xs : List D, 0 < xs.length → xs.length < 1000000 → (c 8 [spr, .list xs]).wp fun d => d ∈ xs)
    (ht : (c 11 [spr, .tuple [.list us, .list cs, .list ts], .int 5]).wp fun d => ∃ xs, d = .tuple xs ∧ Tms xs) (h7 : ∀ d ∈ i7, P7 c d) (h7x : ∀ xs, Tms xs → xs.length = 2 → c 15 [.tuple xs] = .ret (.bool false))
    (v : VI (.tuple [.list us, .list cs, .list ts]) .no 32 ρ) : WP (exs Z.gs Z.fs c (ssDrop 6 B_law_values) ρ) QV := by
  have ⟨ps, x5, x7, e, l1, l2, g⟩ := v
  rw [e, s6]
  have hw : WP (ev Z.gs Z.fs c (.call 11 (.cons (.var 0) (.cons (.var 1) (.cons (.cst (.int (5))) .nil))) .nil) (venv (.tuple [.list us, .list cs, .list ts]) ps x5 .no x7)) fun d => WP (exs Z.gs Z.fs c (ssDrop 7 B_law_values) ((venv (.tuple [.list us, .list cs, .list ts]) ps x5 .no x7).set 6 (.val d))) QV := by
    rw [ct]
    have f : ∀ d, (∃ xs, d = .tuple xs ∧ Tms xs) → WP (exs Z.gs Z.fs c (ssDrop 7 B_law_values) ((venv (.tuple [.list us, .list cs, .list ts]) ps x5 .no x7).set 6 (.val d))) QV := by
      intro d hd
      have ⟨xs, ed, hx⟩ := hd
      rw [ed]
      have v3 : VI (.tuple [.list us, .list cs, .list ts]) (.val (.tuple xs)) 32 ((venv (.tuple [.list us, .list cs, .list ts]) ps x5 .no x7).set 6 (.val (.tuple xs))) := ⟨ps, x5, x7, rfl, l1, by decide, g⟩
      have k := k7 K hx hp h7 (h7x xs hx) v3
      exact k
    have k := WP_mono f (WP.mk ht)
    exact k
  have k := wp_setW (r := ssDrop 7 B_law_values) hw
  exact k
theorem k5 (K : KitOk us cs ts) (hp : ∀ xs : List D, 0 < xs.length → xs.length < 1000000 → (c 8 [spr, .list xs]).wp fun d => d ∈ xs)
    (ht : (c 11 [spr, .tuple [.list us, .list cs, .list ts], .int 5]).wp fun d => ∃ xs, d = .tuple xs ∧ Tms xs) (h7 : ∀ d ∈ i7, P7 c d) (h7x : ∀ xs, Tms xs → xs.length = 2 → c 15 [.tuple xs] = .ret (.bool false))
    (v : VI (.tuple [.list us, .list cs, .list ts]) .no 12 ρ) : WP (exs Z.gs Z.fs c (ssDrop 5 B_law_values) ρ) QV := by
  have hi : ∀ ps x5 x7, WP (evI Z.gs Z.fs c (frIt (st 5)) (venv (.tuple [.list us, .list cs, .list ts]) ps x5 .no x7)) fun ds => ds.length ≤ 20 ∧ ∀ d ∈ ds, Told d false false false false false false := by
    intro ps x5 x7
    refine WP_ret (it5_eq ..) ⟨len5, all_told it5_told⟩
  have he : ∀ d ps x7, Told d false false false false false false → WP (ev Z.gs Z.fs c (appE (st 5)) (venv (.tuple [.list us, .list cs, .list ts]) ps (.val d) .no x7)) Good := by
    intro d ps x7 hd
    exact WP_ret (e5_eq ..) (good_told hd)
  have k := loop5W (c := c) (r := ssDrop 6 B_law_values) (Q := QV) (n := 12) (m := 20) (by decide) v hi he (fun ρ w => k6 K hp ht h7 h7x w)
  rw [s5]
  exact k
theorem values_c (K : KitOk us cs ts) (hp : ∀ xs : List D, 0 < xs.length → xs.length < 1000000 → (c 8 [spr, .list xs]).wp fun d => d ∈ xs)
    (ht : (c 11 [spr, .tuple [.list us, .list cs, .list ts], .int 5]).wp fun d => ∃ xs, d = .tuple xs ∧ Tms xs) (h7 : ∀ d ∈ i7, P7 c d) (h7x : ∀ xs, Tms xs → xs.length = 2 → c 15 [.tuple xs] = .ret (.bool false)) :
    WP (exs Z.gs Z.fs c B_law_values (enter 8 [spr, .tuple [.list us, .list cs, .list ts]])) QV := by
  have e := exs_take 4 B_law_values _ _ (pre4 (c := c) (.tuple [.list us, .list cs, .list ts]))
  rw [e]
  have h0 := ps0_ok
  rw [Bool.and_eq_true] at h0
  have v0 : VI (.tuple [.list us, .list cs, .list ts]) .no 7 (venv (.tuple [.list us, .list cs, .list ts]) ps0 .no .no .no) := ⟨ps0, .no, .no, rfl, of_decide_eq_true h0.2, by decide, fun p hp => goodB_ok (List.all_eq_true.mp h0.1 p hp)⟩
  have hi := fun ps x5 x7 => it4_wp (c := c) K hp ps x5 .no x7
  have he : ∀ d ps x7, d ∈ words ++ names → WP (ev Z.gs Z.fs c (appE (st 4)) (venv (.tuple [.list us, .list cs, .list ts]) ps (.val d) .no x7)) Good := by
    intro d ps x7 hd
    exact WP_ret (e4_eq ..) (good_told (all_told words_told d hd))
  have k := loop5W (c := c) (r := ssDrop 5 B_law_values) (Q := QV) (n := 7) (m := 5) (by decide) v0 hi he (fun ρ w => k5 K hp ht h7 h7x w)
  rw [s4]
  exact k
end
end K01

namespace K01
open PySem Rf
theorem WP_bind {α β : Type} {t : T α} {f : α → T β} {P : α → Prop} {Q : β → Prop} (h : WP t P) (g : ∀ a, P a → WP (f a) Q) : WP (t.bind f) Q := WP.mk (T.wp_bind.mpr (T.wp_mono (fun a ha => (g a ha).out) h.out))
theorem values_wp {us cs ts : List D} (K : KitOk us cs ts) : WP (cl 12 16 [spr, .tuple [.list us, .list cs, .list ts]]) fun d => ∃ ps, d = .list ps ∧ ∀ p ∈ ps, Good p := by
  have h := values_c (c := cl 11) (us := us) (cs := cs) (ts := ts) K (fun xs h0 h1 => @pick_wp 9 xs h0 h1) (@terms_wp us cs ts K) i7_P (fun xs hx => hx.pair.2)
  have e : cl 12 16 [spr, .tuple [.list us, .list cs, .list ts]] = (exs Z.gs Z.fs (cl 11) B_law_values (enter 8 [spr, .tuple [.list us, .list cs, .list ts]])).bind outOf := runK_code (np := 2) (ns := 8) (body := B_law_values) rfl rfl (by decide)
  have f : ∀ fl, QV fl → WP (outOf fl) fun d => ∃ ps, d = .list ps ∧ ∀ p ∈ ps, Good p := by
    intro fl hf
    have ⟨ps, e, g⟩ := hf
    rw [e]
    exact WP.mk ⟨ps, rfl, g⟩
  rw [e]
  exact WP_bind h f
/-- between the things -/
def LI (ρ : Rf.Env) : Prop := ∃ x2 x3 x4 x5 x6 x7, ρ = [.no, .val spr, x2, x3, x4, x5, x6, x7]
theorem LI.inner {ρ : Rf.Env} {p : D} (hp : Good p) (h : LI ρ) : ∃ ρ1, bindTg (.tp [3, 4]) p ρ = some ρ1 ∧ (exs Z.gs Z.fs (cl 12) inner ρ1).wp fun fl => ∃ ρ', fl = .nx ρ' ∧ LI ρ' := by
  have ⟨x, b0, b1, b2, b3, b4, b5, ep, td⟩ := hp
  have ⟨x2, x3, x4, x5, x6, x7, e⟩ := h
  rw [ep, e]
  have ⟨y5, y6, y7, k⟩ := inner_ok td x2 x5 x6 x7
  refine ⟨[.no, .val spr, x2, .val x, .val (dueOf b0 b1 b2 b3 b4 b5), x5, x6, x7], rfl, ?_⟩
  rw [k]
  exact ⟨_, rfl, _, _, _, _, _, _, rfl⟩
def itV : It := .exp (.call 13 (.cons (.var 1) (.cons (.call 14 (.cons (.var 1) .nil) .nil) .nil)) .nil)
section
variable {c : Nat → List D → T D}
theorem itV_wp {x2 x3 x4 x5 x6 x7 : SV} (hk : (c 10 [spr]).wp fun d => ∃ us cs ts, d = .tuple [.list us, .list cs, .list ts] ∧ KitOk us cs ts) (hv : ∀ us cs ts, KitOk us cs ts → WP (c 16 [spr, .tuple [.list us, .list cs, .list ts]]) fun d => ∃ ps, d = .list ps ∧ ∀ p ∈ ps, Good p) :
    WP (evI Z.gs Z.fs c itV [.no, .val spr, x2, x3, x4, x5, x6, x7]) fun ds => ∀ d ∈ ds, Good d := by
  have e : evI Z.gs Z.fs c itV [.no, .val spr, x2, x3, x4, x5, x6, x7] = ((((c 10 [spr]).bind fun x => T.ret [x]).bind fun xs => T.ret (spr :: xs)).bind fun vs => if vs.length = 2 ∧ ([] : List D).length = ([] : List Str).length then (orStuck (pickAll vs [] [.pos 0, .pos 1])).bind fun ds => c 16 ds else .stuck).bind itemsOf := by
    simp [itV, evI, ev, evs, orStuck, pickAll, pick, T.bind]
  rw [e]
  refine WP.mk ?_
  rw [T.wp_bind, T.wp_bind, T.wp_bind, T.wp_bind]
  have f : ∀ d, (∃ us cs ts, d = .tuple [.list us, .list cs, .list ts] ∧ KitOk us cs ts) → (T.ret [d]).wp fun xs => (T.ret (spr :: xs)).wp fun vs => (if vs.length = 2 ∧ ([] : List D).length = ([] : List Str).length then (orStuck (pickAll vs [] [.pos 0, .pos 1])).bind fun ds => c 16 ds else .stuck).wp fun d => (itemsOf d).wp fun ds => ∀ d ∈ ds, Good d := by
    intro d hd
    have ⟨us, cs, ts, ed, K⟩ := hd
    rw [ed]
    have g : ∀ d, (∃ ps, d = .list ps ∧ ∀ p ∈ ps, Good p) → (itemsOf d).wp fun ds => ∀ d ∈ ds, Good d := by
      intro d hd
      have ⟨ps, ed, g⟩ := hd
      rw [ed]
      exact g
    have k := T.wp_mono g (hv us cs ts K).out
    exact k
  have k := T.wp_mono f hk
  exact k
end
section
variable {c : Nat → List D → T D}
theorem lap_c (hk : (c 10 [spr]).wp fun d => ∃ us cs ts, d = .tuple [.list us, .list cs, .list ts] ∧ KitOk us cs ts) (hv : ∀ us cs ts, KitOk us cs ts → WP (c 16 [spr, .tuple [.list us, .list cs, .list ts]]) fun d => ∃ ps, d = .list ps ∧ ∀ p ∈ ps, Good p)
    (hin : ∀ p ρ, Good p → LI ρ → ∃ ρ1, bindTg (.tp [3, 4]) p ρ = some ρ1 ∧ (exs Z.gs Z.fs c inner ρ1).wp fun fl => ∃ ρ', fl = .nx ρ' ∧ LI ρ') {ρ : Rf.Env} (h : LI ρ) :
    WP (exs Z.gs Z.fs c (.cons (.fr (.tp [3, 4]) itV inner) .nil) ρ) fun fl => ∃ ρ', fl = .nx ρ' ∧ LI ρ' := by
  have ⟨x2, x3, x4, x5, x6, x7, e⟩ := h
  have hi : (evI Z.gs Z.fs c itV ρ).wp fun ds => ∀ d ∈ ds, Good d := by
    rw [e]
    exact (itV_wp hk hv).out
  have k := @wp_fr Z.gs Z.fs c ρ (.tp [3, 4]) itV inner Good LI hi h hin
  refine WP.mk ?_
  refine wp_cons ?_
  have g : ∀ fl, (∃ ρ', fl = Fl.nx ρ' ∧ LI ρ') → ∃ ρ', fl = .nx ρ' ∧ (exs Z.gs Z.fs c .nil ρ').wp fun fl => ∃ ρ', fl = .nx ρ' ∧ LI ρ' := by
    intro fl hf
    have ⟨ρ', e, l⟩ := hf
    exact ⟨ρ', e, wp_nil ⟨ρ', rfl, l⟩⟩
  exact @T.wp_mono _ _ _ g _ k
end
end K01

namespace K01
open PySem Rf
def kindsD : D := .tuple [(.str ⟨#[99, 111, 117, 110, 116, 115]⟩), (.str ⟨#[119, 97, 121, 115]⟩), (.str ⟨#[99, 111, 115, 116, 115]⟩), (.str ⟨#[115, 111, 117, 114, 99, 101, 115]⟩), (.str ⟨#[108, 101, 97, 115, 116]⟩)]
theorem kinds_same : cl 12 9 [kindsD, kindsD] = .ret (.bool true) := same_eq (k := 11) (tOk_shows (m := 1) (by decide +kernel) (by decide))
def lastE : E := .call 22 (.cons (.glo 2) (.cons (.tup (.cons (.cst (.str ⟨#[99, 111, 117, 110, 116, 115]⟩)) (.cons (.cst (.str ⟨#[119, 97, 121, 115]⟩)) (.cons (.cst (.str ⟨#[99, 111, 115, 116, 115]⟩)) (.cons (.cst (.str ⟨#[115, 111, 117, 114, 99, 101, 115]⟩)) (.cons (.cst (.str ⟨#[108, 101, 97, 115, 116]⟩)) .nil)))))) .nil)) .nil
def body1 : Ss := .cons (.fr (.tp [3, 4]) itV inner) .nil
theorem law_eq : Blaw = .cons (.fr (.nm 2) (.rng (.cst (.int 3))) body1) (.cons (.ret lastE) .nil) := rfl
section
variable {c : Nat → List D → T D}
theorem last_eq (hs : c 9 [kindsD, kindsD] = .ret (.bool true)) {ρ : Rf.Env} : ev Z.gs Z.fs c lastE ρ = .ret (.bool true) := by
  have e : Z.gs[2]? = some kindsD := rfl
  unfold lastE
  unfold kindsD at hs e
  simp [ev, evs, e, orStuck, pickAll, pick, T.bind, hs]
theorem law_c (hk : (c 10 [spr]).wp fun d => ∃ us cs ts, d = .tuple [.list us, .list cs, .list ts] ∧ KitOk us cs ts) (hv : ∀ us cs ts, KitOk us cs ts → WP (c 16 [spr, .tuple [.list us, .list cs, .list ts]]) fun d => ∃ ps, d = .list ps ∧ ∀ p ∈ ps, Good p)
    (hin : ∀ p ρ, Good p → LI ρ → ∃ ρ1, bindTg (.tp [3, 4]) p ρ = some ρ1 ∧ (exs Z.gs Z.fs c inner ρ1).wp fun fl => ∃ ρ', fl = .nx ρ' ∧ LI ρ') (hs : c 9 [kindsD, kindsD] = .ret (.bool true)) {ρ : Rf.Env} (h : LI ρ) :
    WP (exs Z.gs Z.fs c Blaw ρ) fun fl => fl = .rt (.bool true) := by
  have hi : (evI Z.gs Z.fs c (.rng (.cst (.int 3))) ρ).wp fun ds => ∀ d ∈ ds, True := by
    have e : evI Z.gs Z.fs c (.rng (.cst (.int 3))) ρ = .ret [.int 0, .int 1, .int 2] := by kernel_rfl
    rw [e]
    exact fun _ _ => trivial
  have hb : ∀ d ρ, True → LI ρ → ∃ ρ1, bindTg (.nm 2) d ρ = some ρ1 ∧ (exs Z.gs Z.fs c body1 ρ1).wp fun fl => ∃ ρ', fl = .nx ρ' ∧ LI ρ' := by
    intro d ρ _ l
    have ⟨x2, x3, x4, x5, x6, x7, e⟩ := l
    have l2 : LI (ρ.set 2 (.val d)) := by
      rw [e]
      exact ⟨_, _, _, _, _, _, rfl⟩
    have k := lap_c hk hv hin l2
    exact ⟨ρ.set 2 (.val d), rfl, @WP.out _ _ _ k⟩
  have k := @wp_fr Z.gs Z.fs c ρ (.nm 2) (.rng (.cst (.int 3))) body1 (fun _ => True) LI hi h hb
  rw [law_eq]
  have g : ∀ fl, (∃ ρ', fl = Fl.nx ρ' ∧ LI ρ') → ∃ ρ', fl = .nx ρ' ∧ (exs Z.gs Z.fs c (.cons (.ret lastE) .nil) ρ').wp fun fl => fl = .rt (.bool true) := by
    intro fl hf
    have ⟨ρ', e, l⟩ := hf
    refine ⟨ρ', e, ?_⟩
    have k := exs_ret (r := .nil) (last_eq (ρ := ρ') hs)
    rw [k]
    rfl
  refine WP.mk ?_
  have m := @T.wp_mono _ _ _ g _ k
  exact @wp_cons Z.gs Z.fs c ρ (fun fl => fl = .rt (.bool true)) _ _ m
end
theorem hin12 : ∀ p ρ, Good p → LI ρ → ∃ ρ1, bindTg (.tp [3, 4]) p ρ = some ρ1 ∧ (exs Z.gs Z.fs (cl 12) inner ρ1).wp fun fl => ∃ ρ', fl = .nx ρ' ∧ LI ρ' := fun p ρ hp h => @LI.inner ρ p hp h
theorem li0 : LI (lawEnv Nlaw.length) := ⟨.no, .no, .no, .no, .no, .no, rfl⟩
theorem law_wp : WP (exs Z.gs Z.fs (cl 12) Blaw (lawEnv Nlaw.length)) fun fl => fl = .rt (.bool true) := by
  have k := @law_c (cl 12) kit_wp (fun us cs ts K => values_wp K) hin12 kinds_same (lawEnv Nlaw.length) li0
  exact k
end K01

namespace K01
open PySem PySem.Spec PyProof.Rows L2 Rf
instance : Kys := ⟨"cells", "at", "left", "count", by decide⟩
def cs : Cs := ⟨5417, 10, 18, 1000000531, 90407, 1511, 2147483489, 8300131, 1601, 2147483423, 1709, 2147483353, 32⟩
theorem cs_ok : cs.ok = true := by decide +kernel
section
variable {P : Program} {w : World} {K : PySem.W.Frag} {mg : Str → Option Value} {base : Heap} {f : Addr} {cdv : Value} {A : Around} {outer : List PySem.Env} {s : Shared} {H : Hp} {E : XK} {k : Nat}
theorem body_draw (hr : Room k (A.deeper (envOfC "_law_dip" (defScope (top 13)) s.heap.objs.size f cdv))) (gi : mg "int" = none) (gl : mg "len" = none) :
    PSs (cxOf CX0 P w K mg base N_law_dip "_law_dip" (defScope (top 13)) f cdv A outer s H E).nox (defBody (top 13)) (tDraw K cs) := by
  have hu := hr.units
  have S := sc_law_dip
  have hu1 : (cxOf CX0 P w K mg base N_law_dip "_law_dip" (defScope (top 13)) f cdv A outer s H E).nox.A.units + 1 < cLine := by
    have : (cxOf CX0 P w K mg base N_law_dip "_law_dip" (defScope (top 13)) f cdv A outer s H E).nox.A.units + 64 < cLine := hu
    omega
  have dn {o pos j p2} {td : TE} {z : Str} (ho : PE (cxOf CX0 P w K mg base N_law_dip "_law_dip" (defScope (top 13)) f cdv A outer s H E).nox o td) : PE (cxOf CX0 P w K mg base N_law_dip "_law_dip" (defScope (top 13)) f cdv A outer s H E).nox (.Subscript o (.Constant (.str z) j p2) pos) (tDGet td (tKy z)) := pe_dget hu1 ho pe_str (fun _ _ => rfl)
  have int1 {e p pos} {t : TE} (he : PE (cxOf CX0 P w K mg base N_law_dip "_law_dip" (defScope (top 13)) f cdv A outer s H E).nox e t) (hs : starEach [e] (cxOf CX0 P w K mg base N_law_dip "_law_dip" (defScope (top 13)) f cdv A outer s H E).nox.env = (false, eval e (cxOf CX0 P w K mg base N_law_dip "_law_dip" (defScope (top 13)) f cdv A outer s H E).nox.env) :: starEach [] (cxOf CX0 P w K mg base N_law_dip "_law_dip" (defScope (top 13)) f cdv A outer s H E).nox.env := by rfl) : PE (cxOf CX0 P w K mg base N_law_dip "_law_dip" (defScope (top 13)) f cdv A outer s H E).nox (.Call (.Name "int" p) [e] [] pos) (tInt t) := pe_callTy call_int1 rfl gi (by decide +kernel) (pa_cons he pa_nil hs) (by decide) (by decide) hs
  have len1 {e p pos} {t : TE} (he : PE (cxOf CX0 P w K mg base N_law_dip "_law_dip" (defScope (top 13)) f cdv A outer s H E).nox e t) (hs : starEach [e] (cxOf CX0 P w K mg base N_law_dip "_law_dip" (defScope (top 13)) f cdv A outer s H E).nox.env = (false, eval e (cxOf CX0 P w K mg base N_law_dip "_law_dip" (defScope (top 13)) f cdv A outer s H E).nox.env) :: starEach [] (cxOf CX0 P w K mg base N_law_dip "_law_dip" (defScope (top 13)) f cdv A outer s H E).nox.env := by rfl) : PE (cxOf CX0 P w K mg base N_law_dip "_law_dip" (defScope (top 13)) f cdv A outer s H E).nox (.Call (.Name "len" p) [e] [] pos) (tLen K t) := pe_callB call_len rfl gl boot_len (pa_cons he pa_nil hs) (by decide) (by decide) hs
  refine pss_cons (ps_dput hu1 (pv 0) pe_str (pe_op op_add (dn (pv 0)) pe_int) rfl) ?_
  refine pss_cons (ps_if (pt_cmpR op_gt (dn (pv 0)) pe_int (nomark _)) (pss_cons (ps_set (i := 2) S.nd rfl (Or.inl rfl) (pe_op op_mod (int1 (dn (pv 0))) (pv 1))) (pss_cons (ps_dput hu1 (pv 0) pe_str (pe_op op_fdiv (dn (pv 0)) (pv 1)) rfl) (pss_one (ps_ret (pv 2))))) pss_nil) ?_
  refine pss_cons (ps_set (i := 3) S.nd rfl (Or.inl rfl) (dn (pv 0))) ?_
  refine pss_cons (ps_dput hu1 (pv 0) pe_str (pe_op op_add (pv 3) pe_int) rfl) ?_
  refine pss_cons (ps_set (i := 4) S.nd rfl (Or.inl rfl) (pe_ifExp (pt_cmpR (op_neE hu) (dn (pv 0)) (pe_lst pa_nil) (nomark _)) (pe_ix ix_list (dn (pv 0)) (pe_op op_mod (int1 (pv 3)) (len1 (dn (pv 0)))) (fun _ _ => rfl)) pe_int)) ?_
  refine pss_cons (ps_if (PW.pt (pw_and (pt_cmpR op_ge (pv 4) (pe_op op_pow pe_int pe_int) (nomark _)) (pw_and1 (pt_cmpR op_lt (pv 3) (len1 (dn (pv 0))) (nomark _))))) (pss_cons (ps_dput hu1 (pv 0) pe_str (pe_op op_fdiv (pv 4) (pv 1)) rfl) (pss_one (ps_ret (pe_op op_mod (int1 (pv 4)) (pv 1))))) pss_nil) ?_
  refine pss_cons (ps_set (i := 5) S.nd rfl (Or.inl rfl) (pe_op op_mod (int1 (pe_op op_add (pe_op op_add (pe_op op_mod (int1 (pv 4)) pe_int) (pe_op op_mul pe_int (dn (pv 0)))) pe_int)) pe_int)) ?_
  refine pss_cons (ps_set (i := 5) S.nd rfl (Or.inl rfl) (pe_op op_mod (int1 (pe_op op_add (pe_op op_add (pe_op op_mul (pv 5) (pv 5)) (pe_op op_mul pe_int (dn (pv 0)))) pe_int)) pe_int)) ?_
  exact pss_one (ps_ret (pe_op op_mod (int1 (pe_op op_fdiv (pe_op op_mod (int1 (pe_op op_add (pe_op op_mul (pv 5) (pv 5)) (pe_op op_mul pe_int (pv 5)))) pe_int) pe_int)) (pv 1)))
theorem sc_law_spring : FnScope ["_law_script"] ["_law_script"] (defScope (top 12)) := ⟨rfl, rfl, rfl, by decide +kernel, rfl, by decide +kernel, by decide +kernel⟩
theorem body_spring (gli : mg "list" = none) : PSs (cxOf CX0 P w K mg base ["_law_script"] "_law_spring" (defScope (top 12)) f cdv A outer s H E).nox (defBody (top 12)) (tSpring K 62) :=
  pss_one (ps_ret (pe_disp (pps_cons pe_str (pe_callTy call_list_of rfl gli (by decide +kernel) (pa_cons (pe_slice sl_list (pv 0) po_none (po_some pe_int)) pa_nil)) (pps_cons pe_str pe_int (pps_cons pe_str pe_int (pps_cons pe_str pe_int pps_nil)))) rfl rfl (by decide) (by decide)))
end
def d_is_integer : He.DefD := ⟨("is_integer", none), "is_integer", "is_integer", defArgs (top 4), defBody (top 4), defScope (top 4), [], []⟩
def d_is_number : He.DefD := ⟨("is_number", none), "is_number", "is_number", defArgs (top 5), defBody (top 5), defScope (top 5), [], []⟩
def d_is_name : He.DefD := ⟨("is_name", none), "is_name", "is_name", defArgs (top 6), defBody (top 6), defScope (top 6), [], []⟩
def d_is_pair : He.DefD := ⟨("is_pair", none), "is_pair", "is_pair", defArgs (top 7), defBody (top 7), defScope (top 7), [], []⟩
def d_is_term : He.DefD := ⟨("is_term", none), "is_term", "is_term", defArgs (top 8), defBody (top 8), defScope (top 8), [], []⟩
def d_is_terms : He.DefD := ⟨("is_terms", none), "is_terms", "is_terms", defArgs (top 9), defBody (top 9), defScope (top 9), [], []⟩
def d_is_atom : He.DefD := ⟨("is_atom", none), "is_atom", "is_atom", defArgs (top 10), defBody (top 10), defScope (top 10), [], []⟩
def d__law_spring : He.DefD := ⟨("_law_spring", none), "_law_spring", "_law_spring", defArgs (top 12), defBody (top 12), defScope (top 12), [], []⟩
def d__law_dip : He.DefD := ⟨("_law_dip", none), "_law_dip", "_law_dip", defArgs (top 13), defBody (top 13), defScope (top 13), [], []⟩
def d__law_pick : He.DefD := ⟨("_law_pick", none), "_law_pick", "_law_pick", defArgs (top 14), defBody (top 14), defScope (top 14), [], []⟩
def d__law_same : He.DefD := ⟨("_law_same", none), "_law_same", "_law_same", defArgs (top 15), defBody (top 15), defScope (top 15), [], []⟩
def d__law_kit : He.DefD := ⟨("_law_kit", none), "_law_kit", "_law_kit", defArgs (top 16), defBody (top 16), defScope (top 16), [], []⟩
def d__law_terms : He.DefD := ⟨("_law_terms", none), "_law_terms", "_law_terms", defArgs (top 17), defBody (top 17), defScope (top 17), [], []⟩
def d__law_is_name : He.DefD := ⟨("_law_is_name", none), "_law_is_name", "_law_is_name", defArgs (top 18), defBody (top 18), defScope (top 18), [], []⟩
def d__law_is_number : He.DefD := ⟨("_law_is_number", none), "_law_is_number", "_law_is_number", defArgs (top 19), defBody (top 19), defScope (top 19), [], []⟩
def d__law_is_term : He.DefD := ⟨("_law_is_term", none), "_law_is_term", "_law_is_term", defArgs (top 20), defBody (top 20), defScope (top 20), [], []⟩
def d__law_is_atom : He.DefD := ⟨("_law_is_atom", none), "_law_is_atom", "_law_is_atom", defArgs (top 21), defBody (top 21), defScope (top 21), [], []⟩
def d__law_values : He.DefD := ⟨("_law_values", none), "_law_values", "_law_values", defArgs (top 22), defBody (top 22), defScope (top 22), [], []⟩
def d_law : He.DefD := ⟨("law", none), "law", "law", defArgs (top 23), defBody (top 23), defScope (top 23), [], []⟩
def fn : List He.DefD := [d_is_integer, d_is_number, d_is_name, d_is_pair, d_is_term, d_is_terms, d_is_atom, d__law_spring, d__law_dip, d__law_pick, d__law_same, d__law_kit, d__law_terms, d__law_is_name, d__law_is_number, d__law_is_term, d__law_is_atom, d__law_values, d_law]
def fa : List He.Fa := [.glo "is_integer", .glo "is_number", .glo "is_name", .glo "is_pair", .glo "is_term", .glo "is_terms", .glo "is_atom", .glo "_law_spring", .glo "_law_dip", .glo "_law_pick", .glo "_law_same", .glo "_law_kit", .glo "_law_terms", .glo "_law_is_name", .glo "_law_is_number", .glo "_law_is_term", .glo "_law_is_atom", .glo "_law_values", .glo "law", .free "len", .free "tuple", .free "list", .free "int", .free "str", .free "repr", .free "all", .free "any", .free "isinstance", .free "range", .free "enumerate", .free "zip", .free "bool", .free "sorted", .free "set", .free "sum", .free "dict"]
abbrev R : PySem.W.OpenRow := PySem.W.OpenLaw.row PySem.Challenge.rw_howrows_k01_kinds_told
abbrev ex : PySem.W.Frag → Bool := gloX Z.gn Z.gs
abbrev hk : PySem.W.Hook := He.hookX 4 fa fn [] [] ex
def ob (s : PySem.W.SharedT) : He.AlX := He.obsX 4 fa fn [] [] ex (HandSHeadRun.getT s)
theorem ob_eq (s : PySem.W.SharedT) : ob s = hk.obs s.abs := He.obsX_eq (HandSHeadRun.getT_eq s)
def loose : List Str := ["is_integer", "is_number", "is_name", "is_pair", "is_term", "is_terms", "is_atom", "_law_spring", "_law_dip", "_law_pick", "_law_same", "_law_kit", "_law_terms", "_law_is_name", "_law_is_number", "_law_is_term", "_law_is_atom", "_law_values", "KINDS", "LETTERS", "MOST_LETTERS"]
theorem run (w : World) : HandSHeadRun.RunEq R (PySem.W.view R.prog [23]) hk ob 20000 loose w := by
  intro os
  kernel_rfl
section
variable {P : Program} {w : World} {K : PySem.W.Frag} {h : Heap} {mg : Str → Option Value} {base : Heap}
theorem dk_is_integer (X : K.In h) (G : h.Ns mainGlobals mg) (c : He.SaysX fa fn [] [] ex w h K) (gi : mg "int" = none) (gl : mg "len" = none) : DefOk ⟨P, w, K, mg, base⟩ Z df 0 "is_integer" (.code 1 Nis_integer.length Bis_integer) := by
  obtain ⟨fd, F⟩ := c.t.d.def_ 0 (d := d_is_integer) rfl
  exact ⟨_, fd, ["thing"], He.glo_ok X G (c.t.d.fact 0 (f := .glo "is_integer") rfl), F.kp, forms_of (l := [⟨0, 1, [], [.pos 0]⟩, ⟨0, 0, ["thing"], [.kw 0]⟩]) rfl (List.forall_mem_cons.2 ⟨bindF_of F fun _ _ _ _ _ _ us ws h1 h2 => match us, ws, h1, h2 with | [u0], [], _, _ => ⟨[u0], (.pos rfl .nil), rfl, rfl⟩, List.forall_mem_cons.2 ⟨bindF_of F fun _ _ _ _ _ _ us ws h1 h2 => match us, ws, h1, h2 with | [], [w0], _, _ => ⟨[w0], (.kw rfl .nil), rfl, rfl⟩, List.forall_mem_nil _⟩⟩), fun k G => gn_code F scis_integer rfl ckis_integer rfl G⟩
theorem dk_is_number (X : K.In h) (G : h.Ns mainGlobals mg) (c : He.SaysX fa fn [] [] ex w h K) (gi : mg "int" = none) (gl : mg "len" = none) : DefOk ⟨P, w, K, mg, base⟩ Z df 1 "is_number" (.code 1 Nis_number.length Bis_number) := by
  obtain ⟨fd, F⟩ := c.t.d.def_ 1 (d := d_is_number) rfl
  exact ⟨_, fd, ["thing"], He.glo_ok X G (c.t.d.fact 1 (f := .glo "is_number") rfl), F.kp, forms_of (l := [⟨1, 1, [], [.pos 0]⟩, ⟨1, 0, ["thing"], [.kw 0]⟩]) rfl (List.forall_mem_cons.2 ⟨bindF_of F fun _ _ _ _ _ _ us ws h1 h2 => match us, ws, h1, h2 with | [u0], [], _, _ => ⟨[u0], (.pos rfl .nil), rfl, rfl⟩, List.forall_mem_cons.2 ⟨bindF_of F fun _ _ _ _ _ _ us ws h1 h2 => match us, ws, h1, h2 with | [], [w0], _, _ => ⟨[w0], (.kw rfl .nil), rfl, rfl⟩, List.forall_mem_nil _⟩⟩), fun k G => gn_code F scis_number rfl ckis_number rfl G⟩
theorem dk_is_name (X : K.In h) (G : h.Ns mainGlobals mg) (c : He.SaysX fa fn [] [] ex w h K) (gi : mg "int" = none) (gl : mg "len" = none) : DefOk ⟨P, w, K, mg, base⟩ Z df 2 "is_name" (.code 1 Nis_name.length Bis_name) := by
  obtain ⟨fd, F⟩ := c.t.d.def_ 2 (d := d_is_name) rfl
  exact ⟨_, fd, ["thing"], He.glo_ok X G (c.t.d.fact 2 (f := .glo "is_name") rfl), F.kp, forms_of (l := [⟨2, 1, [], [.pos 0]⟩, ⟨2, 0, ["thing"], [.kw 0]⟩]) rfl (List.forall_mem_cons.2 ⟨bindF_of F fun _ _ _ _ _ _ us ws h1 h2 => match us, ws, h1, h2 with | [u0], [], _, _ => ⟨[u0], (.pos rfl .nil), rfl, rfl⟩, List.forall_mem_cons.2 ⟨bindF_of F fun _ _ _ _ _ _ us ws h1 h2 => match us, ws, h1, h2 with | [], [w0], _, _ => ⟨[w0], (.kw rfl .nil), rfl, rfl⟩, List.forall_mem_nil _⟩⟩), fun k G => gn_code F scis_name rfl ckis_name rfl G⟩
theorem dk_is_pair (X : K.In h) (G : h.Ns mainGlobals mg) (c : He.SaysX fa fn [] [] ex w h K) (gi : mg "int" = none) (gl : mg "len" = none) : DefOk ⟨P, w, K, mg, base⟩ Z df 3 "is_pair" (.code 1 Nis_pair.length Bis_pair) := by
  obtain ⟨fd, F⟩ := c.t.d.def_ 3 (d := d_is_pair) rfl
  exact ⟨_, fd, ["thing"], He.glo_ok X G (c.t.d.fact 3 (f := .glo "is_pair") rfl), F.kp, forms_of (l := [⟨3, 1, [], [.pos 0]⟩]) rfl (List.forall_mem_cons.2 ⟨bindF_of F fun _ _ _ _ _ _ us ws h1 h2 => match us, ws, h1, h2 with | [u0], [], _, _ => ⟨[u0], (.pos rfl .nil), rfl, rfl⟩, List.forall_mem_nil _⟩), fun k G => gn_code F scis_pair rfl ckis_pair rfl G⟩
theorem dk_is_term (X : K.In h) (G : h.Ns mainGlobals mg) (c : He.SaysX fa fn [] [] ex w h K) (gi : mg "int" = none) (gl : mg "len" = none) : DefOk ⟨P, w, K, mg, base⟩ Z df 4 "is_term" (.code 1 Nis_term.length Bis_term) := by
  obtain ⟨fd, F⟩ := c.t.d.def_ 4 (d := d_is_term) rfl
  exact ⟨_, fd, ["thing"], He.glo_ok X G (c.t.d.fact 4 (f := .glo "is_term") rfl), F.kp, forms_of (l := [⟨4, 1, [], [.pos 0]⟩, ⟨4, 0, ["thing"], [.kw 0]⟩]) rfl (List.forall_mem_cons.2 ⟨bindF_of F fun _ _ _ _ _ _ us ws h1 h2 => match us, ws, h1, h2 with | [u0], [], _, _ => ⟨[u0], (.pos rfl .nil), rfl, rfl⟩, List.forall_mem_cons.2 ⟨bindF_of F fun _ _ _ _ _ _ us ws h1 h2 => match us, ws, h1, h2 with | [], [w0], _, _ => ⟨[w0], (.kw rfl .nil), rfl, rfl⟩, List.forall_mem_nil _⟩⟩), fun k G => gn_code F scis_term rfl ckis_term rfl G⟩
theorem dk_is_terms (X : K.In h) (G : h.Ns mainGlobals mg) (c : He.SaysX fa fn [] [] ex w h K) (gi : mg "int" = none) (gl : mg "len" = none) : DefOk ⟨P, w, K, mg, base⟩ Z df 5 "is_terms" (.code 1 Nis_terms.length Bis_terms) := by
  obtain ⟨fd, F⟩ := c.t.d.def_ 5 (d := d_is_terms) rfl
  exact ⟨_, fd, ["thing"], He.glo_ok X G (c.t.d.fact 5 (f := .glo "is_terms") rfl), F.kp, forms_of (l := [⟨5, 1, [], [.pos 0]⟩, ⟨5, 0, ["thing"], [.kw 0]⟩]) rfl (List.forall_mem_cons.2 ⟨bindF_of F fun _ _ _ _ _ _ us ws h1 h2 => match us, ws, h1, h2 with | [u0], [], _, _ => ⟨[u0], (.pos rfl .nil), rfl, rfl⟩, List.forall_mem_cons.2 ⟨bindF_of F fun _ _ _ _ _ _ us ws h1 h2 => match us, ws, h1, h2 with | [], [w0], _, _ => ⟨[w0], (.kw rfl .nil), rfl, rfl⟩, List.forall_mem_nil _⟩⟩), fun k G => gn_code F scis_terms rfl ckis_terms rfl G⟩
theorem dk_is_atom (X : K.In h) (G : h.Ns mainGlobals mg) (c : He.SaysX fa fn [] [] ex w h K) (gi : mg "int" = none) (gl : mg "len" = none) : DefOk ⟨P, w, K, mg, base⟩ Z df 6 "is_atom" (.code 1 Nis_atom.length Bis_atom) := by
  obtain ⟨fd, F⟩ := c.t.d.def_ 6 (d := d_is_atom) rfl
  exact ⟨_, fd, ["thing"], He.glo_ok X G (c.t.d.fact 6 (f := .glo "is_atom") rfl), F.kp, forms_of (l := [⟨6, 1, [], [.pos 0]⟩, ⟨6, 0, ["thing"], [.kw 0]⟩]) rfl (List.forall_mem_cons.2 ⟨bindF_of F fun _ _ _ _ _ _ us ws h1 h2 => match us, ws, h1, h2 with | [u0], [], _, _ => ⟨[u0], (.pos rfl .nil), rfl, rfl⟩, List.forall_mem_cons.2 ⟨bindF_of F fun _ _ _ _ _ _ us ws h1 h2 => match us, ws, h1, h2 with | [], [w0], _, _ => ⟨[w0], (.kw rfl .nil), rfl, rfl⟩, List.forall_mem_nil _⟩⟩), fun k G => gn_code F scis_atom rfl ckis_atom rfl G⟩
theorem dk__law_dip (X : K.In h) (G : h.Ns mainGlobals mg) (c : He.SaysX fa fn [] [] ex w h K) (gi : mg "int" = none) (gl : mg "len" = none) : DefOk ⟨P, w, K, mg, base⟩ Z df 7 "_law_dip" .draw := by
  obtain ⟨fd, F⟩ := c.t.d.def_ 8 (d := d__law_dip) rfl
  exact ⟨_, fd, ["_law_spring_here", "_law_many"], He.glo_ok X G (c.t.d.fact 8 (f := .glo "_law_dip") rfl), F.kp, forms_of (l := [⟨7, 2, [], [.pos 0, .pos 1]⟩]) rfl (List.forall_mem_cons.2 ⟨bindF_of F fun _ _ _ _ _ _ us ws h1 h2 => match us, ws, h1, h2 with | [u0, u1], [], _, _ => ⟨[u0, u1], (.pos rfl (.pos rfl .nil)), rfl, rfl⟩, List.forall_mem_nil _⟩), fun k G => gn_draw (q := cs) F sc_law_dip rfl rfl cs_ok (fun cdv A outer s H E hr => body_draw hr gi gl) rfl⟩
theorem dk__law_pick (X : K.In h) (G : h.Ns mainGlobals mg) (c : He.SaysX fa fn [] [] ex w h K) (gi : mg "int" = none) (gl : mg "len" = none) : DefOk ⟨P, w, K, mg, base⟩ Z df 8 "_law_pick" (.code 2 N_law_pick.length B_law_pick) := by
  obtain ⟨fd, F⟩ := c.t.d.def_ 9 (d := d__law_pick) rfl
  exact ⟨_, fd, ["_law_spring_here", "_law_some"], He.glo_ok X G (c.t.d.fact 9 (f := .glo "_law_pick") rfl), F.kp, forms_of (l := [⟨8, 2, [], [.pos 0, .pos 1]⟩]) rfl (List.forall_mem_cons.2 ⟨bindF_of F fun _ _ _ _ _ _ us ws h1 h2 => match us, ws, h1, h2 with | [u0, u1], [], _, _ => ⟨[u0, u1], (.pos rfl (.pos rfl .nil)), rfl, rfl⟩, List.forall_mem_nil _⟩), fun k G => gn_code F sc_law_pick rfl ck_law_pick rfl G⟩
theorem dk__law_same (X : K.In h) (G : h.Ns mainGlobals mg) (c : He.SaysX fa fn [] [] ex w h K) (gi : mg "int" = none) (gl : mg "len" = none) : DefOk ⟨P, w, K, mg, base⟩ Z df 9 "_law_same" (.code 2 N_law_same.length B_law_same) := by
  obtain ⟨fd, F⟩ := c.t.d.def_ 10 (d := d__law_same) rfl
  exact ⟨_, fd, ["_law_told", "_law_due"], He.glo_ok X G (c.t.d.fact 10 (f := .glo "_law_same") rfl), F.kp, forms_of (l := [⟨9, 2, [], [.pos 0, .pos 1]⟩]) rfl (List.forall_mem_cons.2 ⟨bindF_of F fun _ _ _ _ _ _ us ws h1 h2 => match us, ws, h1, h2 with | [u0, u1], [], _, _ => ⟨[u0, u1], (.pos rfl (.pos rfl .nil)), rfl, rfl⟩, List.forall_mem_nil _⟩), fun k G => gn_code F sc_law_same rfl ck_law_same rfl G⟩
theorem dk__law_kit (X : K.In h) (G : h.Ns mainGlobals mg) (c : He.SaysX fa fn [] [] ex w h K) (gi : mg "int" = none) (gl : mg "len" = none) : DefOk ⟨P, w, K, mg, base⟩ Z df 10 "_law_kit" (.code 1 N_law_kit.length B_law_kit) := by
  obtain ⟨fd, F⟩ := c.t.d.def_ 11 (d := d__law_kit) rfl
  exact ⟨_, fd, ["_law_spring_here"], He.glo_ok X G (c.t.d.fact 11 (f := .glo "_law_kit") rfl), F.kp, forms_of (l := [⟨10, 1, [], [.pos 0]⟩]) rfl (List.forall_mem_cons.2 ⟨bindF_of F fun _ _ _ _ _ _ us ws h1 h2 => match us, ws, h1, h2 with | [u0], [], _, _ => ⟨[u0], (.pos rfl .nil), rfl, rfl⟩, List.forall_mem_nil _⟩), fun k G => gn_code F sc_law_kit rfl ck_law_kit rfl G⟩
theorem dk__law_terms (X : K.In h) (G : h.Ns mainGlobals mg) (c : He.SaysX fa fn [] [] ex w h K) (gi : mg "int" = none) (gl : mg "len" = none) : DefOk ⟨P, w, K, mg, base⟩ Z df 11 "_law_terms" (.code 3 N_law_terms.length B_law_terms) := by
  obtain ⟨fd, F⟩ := c.t.d.def_ 12 (d := d__law_terms) rfl
  exact ⟨_, fd, ["_law_spring_here", "_law_kit_here", "_law_most"], He.glo_ok X G (c.t.d.fact 12 (f := .glo "_law_terms") rfl), F.kp, forms_of (l := [⟨11, 3, [], [.pos 0, .pos 1, .pos 2]⟩]) rfl (List.forall_mem_cons.2 ⟨bindF_of F fun _ _ _ _ _ _ us ws h1 h2 => match us, ws, h1, h2 with | [u0, u1, u2], [], _, _ => ⟨[u0, u1, u2], (.pos rfl (.pos rfl (.pos rfl .nil))), rfl, rfl⟩, List.forall_mem_nil _⟩), fun k G => gn_code F sc_law_terms rfl ck_law_terms rfl G⟩
theorem dk__law_is_name (X : K.In h) (G : h.Ns mainGlobals mg) (c : He.SaysX fa fn [] [] ex w h K) (gi : mg "int" = none) (gl : mg "len" = none) : DefOk ⟨P, w, K, mg, base⟩ Z df 12 "_law_is_name" (.code 1 N_law_is_name.length B_law_is_name) := by
  obtain ⟨fd, F⟩ := c.t.d.def_ 13 (d := d__law_is_name) rfl
  exact ⟨_, fd, ["_law_item"], He.glo_ok X G (c.t.d.fact 13 (f := .glo "_law_is_name") rfl), F.kp, forms_of (l := [⟨12, 1, [], [.pos 0]⟩]) rfl (List.forall_mem_cons.2 ⟨bindF_of F fun _ _ _ _ _ _ us ws h1 h2 => match us, ws, h1, h2 with | [u0], [], _, _ => ⟨[u0], (.pos rfl .nil), rfl, rfl⟩, List.forall_mem_nil _⟩), fun k G => gn_code F sc_law_is_name rfl ck_law_is_name rfl G⟩
theorem dk__law_is_number (X : K.In h) (G : h.Ns mainGlobals mg) (c : He.SaysX fa fn [] [] ex w h K) (gi : mg "int" = none) (gl : mg "len" = none) : DefOk ⟨P, w, K, mg, base⟩ Z df 13 "_law_is_number" (.code 1 N_law_is_number.length B_law_is_number) := by
  obtain ⟨fd, F⟩ := c.t.d.def_ 14 (d := d__law_is_number) rfl
  exact ⟨_, fd, ["_law_item"], He.glo_ok X G (c.t.d.fact 14 (f := .glo "_law_is_number") rfl), F.kp, forms_of (l := [⟨13, 1, [], [.pos 0]⟩]) rfl (List.forall_mem_cons.2 ⟨bindF_of F fun _ _ _ _ _ _ us ws h1 h2 => match us, ws, h1, h2 with | [u0], [], _, _ => ⟨[u0], (.pos rfl .nil), rfl, rfl⟩, List.forall_mem_nil _⟩), fun k G => gn_code F sc_law_is_number rfl ck_law_is_number rfl G⟩
theorem dk__law_is_term (X : K.In h) (G : h.Ns mainGlobals mg) (c : He.SaysX fa fn [] [] ex w h K) (gi : mg "int" = none) (gl : mg "len" = none) : DefOk ⟨P, w, K, mg, base⟩ Z df 14 "_law_is_term" (.code 1 N_law_is_term.length B_law_is_term) := by
  obtain ⟨fd, F⟩ := c.t.d.def_ 15 (d := d__law_is_term) rfl
  exact ⟨_, fd, ["_law_item"], He.glo_ok X G (c.t.d.fact 15 (f := .glo "_law_is_term") rfl), F.kp, forms_of (l := [⟨14, 1, [], [.pos 0]⟩]) rfl (List.forall_mem_cons.2 ⟨bindF_of F fun _ _ _ _ _ _ us ws h1 h2 => match us, ws, h1, h2 with | [u0], [], _, _ => ⟨[u0], (.pos rfl .nil), rfl, rfl⟩, List.forall_mem_nil _⟩), fun k G => gn_code F sc_law_is_term rfl ck_law_is_term rfl G⟩
theorem dk__law_is_atom (X : K.In h) (G : h.Ns mainGlobals mg) (c : He.SaysX fa fn [] [] ex w h K) (gi : mg "int" = none) (gl : mg "len" = none) : DefOk ⟨P, w, K, mg, base⟩ Z df 15 "_law_is_atom" (.code 1 N_law_is_atom.length B_law_is_atom) := by
  obtain ⟨fd, F⟩ := c.t.d.def_ 16 (d := d__law_is_atom) rfl
  exact ⟨_, fd, ["_law_item"], He.glo_ok X G (c.t.d.fact 16 (f := .glo "_law_is_atom") rfl), F.kp, forms_of (l := [⟨15, 1, [], [.pos 0]⟩]) rfl (List.forall_mem_cons.2 ⟨bindF_of F fun _ _ _ _ _ _ us ws h1 h2 => match us, ws, h1, h2 with | [u0], [], _, _ => ⟨[u0], (.pos rfl .nil), rfl, rfl⟩, List.forall_mem_nil _⟩), fun k G => gn_code F sc_law_is_atom rfl ck_law_is_atom rfl G⟩
theorem dk__law_values (X : K.In h) (G : h.Ns mainGlobals mg) (c : He.SaysX fa fn [] [] ex w h K) (gi : mg "int" = none) (gl : mg "len" = none) : DefOk ⟨P, w, K, mg, base⟩ Z df 16 "_law_values" (.code 2 N_law_values.length B_law_values) := by
  obtain ⟨fd, F⟩ := c.t.d.def_ 17 (d := d__law_values) rfl
  exact ⟨_, fd, ["_law_spring_here", "_law_kit_here"], He.glo_ok X G (c.t.d.fact 17 (f := .glo "_law_values") rfl), F.kp, forms_of (l := [⟨16, 2, [], [.pos 0, .pos 1]⟩]) rfl (List.forall_mem_cons.2 ⟨bindF_of F fun _ _ _ _ _ _ us ws h1 h2 => match us, ws, h1, h2 with | [u0, u1], [], _, _ => ⟨[u0, u1], (.pos rfl (.pos rfl .nil)), rfl, rfl⟩, List.forall_mem_nil _⟩), fun k G => gn_code F sc_law_values rfl ck_law_values rfl G⟩
theorem free (X : K.In h) (G : h.Ns mainGlobals mg) (c : He.SaysX fa fn [] [] ex w h K) : ∀ x ∈ bltNames, mg x = none := by
  intro x hx
  have hm : He.Fa.free x ∈ fa := by
    have e : fa.drop 19 = bltNames.map He.Fa.free := rfl
    exact List.mem_of_mem_drop (by rw [e]; exact List.mem_map.mpr ⟨x, hx, rfl⟩)
  exact He.free_ok X G (c.t.d.facts hm)
theorem prg (X : K.In h) (G : h.Ns mainGlobals mg) (c : He.SaysX fa fn [] [] ex w h K) : Prg ⟨P, w, K, mg, base⟩ Z df where
  blt := free X G c
  glo := gloX_ok X G c.more
  len := rfl
  defs := fun i x d e1 e2 => by
    have gi : mg "int" = none := free X G c _ (by decide)
    have gl : mg "len" = none := free X G c _ (by decide)
    match i, e1, e2 with
    | 0, e1, e2 => cases e1; cases e2; exact dk_is_integer X G c gi gl
    | 1, e1, e2 => cases e1; cases e2; exact dk_is_number X G c gi gl
    | 2, e1, e2 => cases e1; cases e2; exact dk_is_name X G c gi gl
    | 3, e1, e2 => cases e1; cases e2; exact dk_is_pair X G c gi gl
    | 4, e1, e2 => cases e1; cases e2; exact dk_is_term X G c gi gl
    | 5, e1, e2 => cases e1; cases e2; exact dk_is_terms X G c gi gl
    | 6, e1, e2 => cases e1; cases e2; exact dk_is_atom X G c gi gl
    | 7, e1, e2 => cases e1; cases e2; exact dk__law_dip X G c gi gl
    | 8, e1, e2 => cases e1; cases e2; exact dk__law_pick X G c gi gl
    | 9, e1, e2 => cases e1; cases e2; exact dk__law_same X G c gi gl
    | 10, e1, e2 => cases e1; cases e2; exact dk__law_kit X G c gi gl
    | 11, e1, e2 => cases e1; cases e2; exact dk__law_terms X G c gi gl
    | 12, e1, e2 => cases e1; cases e2; exact dk__law_is_name X G c gi gl
    | 13, e1, e2 => cases e1; cases e2; exact dk__law_is_number X G c gi gl
    | 14, e1, e2 => cases e1; cases e2; exact dk__law_is_term X G c gi gl
    | 15, e1, e2 => cases e1; cases e2; exact dk__law_is_atom X G c gi gl
    | 16, e1, e2 => cases e1; cases e2; exact dk__law_values X G c gi gl
    | n + 17, e1, e2 => simp [Z] at e1
/-- the law's own call -/
theorem call (X : K.In h) (G : h.Ns mainGlobals mg) (c : He.SaysX fa fn [] [] ex w h K) (hT : WP (exs Z.gs Z.fs (runK Z.gs Z.fs df 12) Blaw (lawEnv Nlaw.length)) fun fl => fl = .rt (.bool true))
    {base : Heap} {H : Hp} {a : Addr} {ns : List Int} {s : Shared} (hS : SqL K H a (ns.map V.int)) (e0 : Env0 P w K mg base callerA [] s H) :
    codeAny (model P w) callerA (.call (.ref (He.ga K "law")) ⟨[.ref a], []⟩) (CR CX0 [] P w H s (fun v _ => v = .bl true) E0) s := by
  obtain ⟨fdS, FS⟩ := c.t.d.def_ 7 (d := d__law_spring) rfl
  obtain ⟨fd, F⟩ := c.t.d.def_ 18 (d := d_law) rfl
  have gS := He.glo_ok X G (c.t.d.fact 7 (f := .glo "_law_spring") rfl)
  have gli : mg "list" = none := free X G c _ (by decide)
  have bS : Binds K fdS ["_law_script"] [] := FS.bindsN fun _ _ _ _ _ _ us hl => match us, hl with | [_], _ => rfl
  have bL := FunD.bindsA (ps := ["_law_script"]) F fun _ _ _ _ _ _ us hl => match us, hl with | [_], _ => rfl
  have OS : FnOk P w K mg base CX0 1 (He.ga K "_law_spring") fdS ["_law_script"] (spSpring K) := ok_spring (g := ⟨P, w, K, mg, base⟩) (k := 0) (hi := 62) FS sc_law_spring rfl rfl fun cdv A outer s H E hr => body_spring gli
  refine law_codeW (g := ⟨P, w, K, mg, base⟩) (Z := Z) (k := 12) (cl := runK Z.gs Z.fs df 12) (st := (defBody (top 23)).headD (.Pass ⟨0, 0, 0, 0⟩)) (rest := (defBody (top 23)).drop 1) (prg_ok (prg X G c) 12) F sclaw (by decide) rfl cklaw (fun s v => bL s [v] rfl) hT ⟨rfl, by decide, by decide⟩ rfl e0 hS fun cdv bo => ?_
  exact ps_set (i := 1) sclaw.nd rfl (Or.inl rfl) (pe_call OS (bo.room.mono (by decide)) rfl gS FS.kp bS .nil pass0 (pa_cons (pv 0) pa_nil))
end
end K01

open PySem PySem.W PySem.Calls PyProof.Rows
theorem PySem.Challenge.cw_howrows_k01_kinds_told_holds : PySem.Challenge.rw_howrows_k01_kinds_told.Holds := by
  w_on; o_law
  refine HandSHeadRun.head_any (r := OpenLaw.row PySem.Challenge.rw_howrows_k01_kinds_told) (q := view (OpenLaw.row PySem.Challenge.rw_howrows_k01_kinds_told).prog [23]) (H := K01.hk) (ob := K01.ob) (M := 20000) (loose := K01.loose) (d := HandSHeadRun.topDef (OpenLaw.row PySem.Challenge.rw_howrows_k01_kinds_told).prog 23) (kwd := []) K01.ob_eq
    (by kernel_rfl) (fun s => by kernel_rfl) K01.run (by kernel_rfl) (by kernel_rfl) (by kernel_rfl) (by rfl) (by first | assumption | decide +kernel) (by decide +kernel) ⟨rfl, rfl, rfl, rfl, rfl, by decide +kernel⟩ ?hw ?hc
  case hw => w_witness2
  case hc =>
    refine Rf.walk_law (l := PySem.Challenge.rw_howrows_k01_kinds_told) (n := 63) rfl (by decide) (by kernel_rfl) ?F
    intro w mg fa h Y G hmg0
    obtain ⟨K, KX, c⟩ := Y
    have hmg : mg ("law" : PySem.Str) = some (.ref fa) := by
      have e : (HandSHeadRun.topDef (OpenLaw.row PySem.Challenge.rw_howrows_k01_kinds_told).prog 23).name = ("law" : PySem.Str) := by kernel_rfl
      rw [← e]
      exact hmg0
    have hg := He.glo_ok KX G (c.t.d.fact 18 (f := .glo "law") rfl)
    rw [hmg] at hg
    cases hg
    exact ⟨K, KX, fun base H a ns s k1 k2 hl hS e0 => K01.call KX G c K01.law_wp hS e0⟩

