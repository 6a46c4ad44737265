import PyProof.Rows.All
import PyProof.CompFree
import PyProof.PlainList
import PyProof.DictKinds
import PyProof.TupleIter
import PyProof.P3Statements
import PyProof.Cells
import PyProof.ListStr
import PyProof.EnumStmt
import PyProof.ListIndexNeg
import Wide.All
import Open.Line
import PySem.Challenge.RW_uf030020_06
namespace Mine

inductive D where
  | none
  | bool (b : Bool)
  | int (i : Int)
  | str (s : List Nat)
  | list (xs : List D)
  | tuple (xs : List D)
  deriving Inhabited

noncomputable def LIM : Nat := 16777216

noncomputable def keyEq : D → D → Bool
  | .str s, .str t => s == t
  | .int i, .int j => i == j
  | _, _ => false
noncomputable def look (k : D) : List D → List D → Option D
  | k' :: ks, v :: vs => if keyEq k k' then some v else look k ks vs
  | _, _ => none
noncomputable def isKey : D → Bool
  | .str _ => true
  | .int _ => true
  | _ => false

mutual
noncomputable def D.eq : D → D → Bool
  | .none, .none => true
  | .bool a, .bool b => a == b
  | .bool a, .int j => (if a then 1 else 0) == j
  | .int i, .bool b => i == (if b then 1 else 0)
  | .int i, .int j => i == j
  | .str s, .str t => s == t
  | .list xs, .list ys => D.eqs xs ys
  | .tuple xs, .tuple ys => D.eqs xs ys
  | _, _ => false
noncomputable def D.eqs : List D → List D → Bool
  | [], [] => true
  | x :: xs, y :: ys => D.eq x y && D.eqs xs ys
  | _, _ => false
noncomputable def D.eqd : List D → List D → List D → List D → Bool
  | k :: ks, v :: vs, ks', vs' => (match look k ks' vs' with | some v' => D.eq v v' | Option.none => false) && D.eqd ks vs ks' vs'
  | _, _, _, _ => true
end

noncomputable def asB : D → Option Bool
  | .bool b => some b
  | _ => Option.none

inductive BOp where | add | sub | mul | div | mod
  deriving DecidableEq
inductive COp where | eq | ne | lt | le | gt
  deriving DecidableEq
inductive Ty where | str | list | tuple | int | bool
  deriving DecidableEq
inductive Fn1 where | len | ord | all | tuple | list | int | str | sum | min1 | sorted | listRev
  deriving DecidableEq
inductive Fn2 where | min | join
  deriving DecidableEq

inductive CE where
  | const (d : D)
  | var (i : Nat)
  | glob (i : Nat)
  | not (e : CE)
  | neg (e : CE)
  | and (es : List CE)
  | or (es : List CE)
  | bin (op : BOp) (a b : CE)
  | cmp (op : COp) (a b : CE)
  | cmp2 (op op' : COp) (a b c : CE)
  | list (es : List CE)
  | tuple (es : List CE)
  | comp (elt : CE) (nt : Nat) (it : CE)
  | call (f : Nat) (es : List CE)
  | isinst (e : CE) (t : Ty)
  | fn1 (f : Fn1) (e : CE)
  | fn2 (f : Fn2) (a b : CE)
  | index (a i : CE)
  | slice (a lo hi : CE)   -- const none for an absent bound
  | range1 (e : CE)
  | rangeDown (a : CE)
  deriving Inhabited

inductive CS where
  | assign (x : Nat) (e : CE)
  | setItem (x : Nat) (i e : CE)
  | append (x : Nat) (e : CE)
  | reverse (x : Nat)
  | expr (e : CE)
  | ret (e : CE)
  | ite (c : CE) (t e : List CS)
  | for (xs : List Nat) (it : CE) (b : List CS)
  | raise (c : Nat)
  deriving Inhabited

structure CF where
  np : Nat
  ns : Nat
  body : List CS
structure Prog where
  globs : List D
  funs : List CF

/-! values of operations -/
noncomputable def smallI (i : Int) : Bool := decide (i.natAbs < 1073741824)
noncomputable def okLen (n : Nat) : Bool := decide (n ≤ LIM)

noncomputable def rep (n : Int) (xs : List α) : List α := (List.replicate n.toNat xs).flatten

noncomputable def binop : BOp → D → D → Option D
  | .add, .int i, .int j => some (.int (i + j))
  | .add, .str s, .str t => if okLen (s.length + t.length) then some (.str (s ++ t)) else Option.none
  | .add, .list s, .list t => if okLen (s.length + t.length) then some (.list (s ++ t)) else Option.none
  | .add, .tuple s, .tuple t => if okLen (s.length + t.length) then some (.tuple (s ++ t)) else Option.none
  | .sub, .int i, .int j => some (.int (i - j))
  | .mul, .int i, .int j => if smallI i || smallI j then some (.int (i * j)) else Option.none
  | .mul, .list s, .int n => if okLen (s.length * n.toNat) && okLen n.natAbs then some (.list (rep n s)) else Option.none
  | .div, .int i, .int j => if j = 0 || !smallI j then Option.none else some (.int (Int.fdiv i j))
  | .mod, .int i, .int j => if j = 0 then Option.none else some (.int (Int.fmod i j))
  | _, _, _ => Option.none

/-- no dict, and at most n deep -/
noncomputable def shal : Nat → D → Bool
  | _, .none => true
  | _, .bool _ => true
  | _, .int _ => true
  | _, .str _ => true
  | n + 1, .list xs => xs.all (shal n)
  | n + 1, .tuple xs => xs.all (shal n)
  | _, _ => false

noncomputable def isIn : D → D → Option Bool
  | .str [c], .str t => some (t.contains c)
  | x, .list ys => if shal 8 x && ys.all (shal 8) then some (ys.any fun y => D.eq y x) else Option.none
  | x, .tuple ys => if shal 8 x && ys.all (shal 8) then some (ys.any fun y => D.eq y x) else Option.none
  | _, _ => Option.none

noncomputable def cmpop : COp → D → D → Option Bool
  | .eq, a, b => if shal 8 a && shal 8 b then some (D.eq a b) else Option.none
  | .ne, a, b => if shal 8 a && shal 8 b then some (!D.eq a b) else Option.none
  | .lt, .int i, .int j => some (decide (i < j))
  | .le, .int i, .int j => some (decide (i ≤ j))
  | .gt, .int i, .int j => some (decide (i > j))
  | _, _, _ => Option.none

noncomputable def hasTy : Ty → D → Bool
  | .str, .str _ => true
  | .list, .list _ => true
  | .tuple, .tuple _ => true
  | .int, .int _ => true
  | .int, .bool _ => true
  | .bool, .bool _ => true
  | _, _ => false

noncomputable def idx (i : Int) (n : Nat) : Option Nat :=
  if 0 ≤ i then (if i < n then some i.toNat else Option.none) else if 0 ≤ i + n then some (i + n).toNat else Option.none
noncomputable def clampI (i : Int) (n : Nat) : Nat := if i < 0 then (i + n).toNat else min i.toNat n
noncomputable def bnd (d : D) (n dflt : Nat) : Option Nat :=
  match d with
  | .none => some dflt
  | .int i => some (clampI i n)
  | _ => Option.none
noncomputable def cut (xs : List α) (lo hi : Nat) : List α := (xs.drop lo).take (hi - lo)

noncomputable def indexOp : D → D → Option D
  | .list xs, .int i => (idx i xs.length).bind fun k => xs[k]?
  | .tuple xs, .int i => (idx i xs.length).bind fun k => xs[k]?
  | .str s, .int i => (idx i s.length).bind fun k => (s[k]?).map fun c => .str [c]
  | _, _ => Option.none
noncomputable def sliceOp (a lo hi : D) : Option D :=
  match a with
  | .list xs => (bnd lo xs.length 0).bind fun l => (bnd hi xs.length xs.length).bind fun h => some (.list (cut xs l h))
  | .str xs => (bnd lo xs.length 0).bind fun l => (bnd hi xs.length xs.length).bind fun h => some (.str (cut xs l h))
  | _ => Option.none

noncomputable def strsOf : List D → Option (List (List Nat))
  | [] => some []
  | .str s :: r => (strsOf r).map (s :: ·)
  | _ :: _ => Option.none
noncomputable def joinL (sep : List Nat) : List (List Nat) → List Nat
  | [] => []
  | [w] => w
  | w :: r => w ++ (sep ++ joinL sep r)
noncomputable def mapO (f : α → Option β) : List α → Option (List β)
  | [] => some []
  | x :: r => (f x).bind fun y => (mapO f r).map (y :: ·)

noncomputable def fn1 : Fn1 → D → Option D
  | .len, .str s => some (.int s.length)
  | .len, .list s => some (.int s.length)
  | .len, .tuple s => some (.int s.length)
  | .ord, .str [c] => some (.int c)
  | .all, .list xs => (mapO asB xs).map fun bs => .bool (bs.all id)
  | .tuple, .list xs => some (.tuple xs)
  | .tuple, .tuple xs => some (.tuple xs)
  | .list, .list xs => some (.list xs)
  | .list, .tuple xs => some (.list xs)
  | .int, .bool b => some (.int (if b then 1 else 0))
  | .listRev, .str s => some (.list (s.reverse.map fun c => .str [c]))
  | _, _ => Option.none

noncomputable def fn2 : Fn2 → D → D → Option D
  | .min, .int i, .int j => some (.int (if j < i then j else i))
  | .join, .str s, .list xs => (strsOf xs).bind fun l => if okLen (l.foldl (fun n t => n + t.length + s.length) 0) then some (.str (joinL s l)) else Option.none
  | _, _, _ => Option.none

noncomputable def upTo (n : Nat) : List D := (List.range n).map fun (k : Nat) => .int k
noncomputable def fromTo (a : Int) (n : Nat) : List D := (List.range n).map fun (k : Nat) => .int (a + k)
noncomputable def downFrom (a : Int) (n : Nat) : List D := (List.range n).map fun (k : Nat) => .int (a - k)

noncomputable def itemsOf : D → Option (List D)
  | .list xs => some xs
  | .tuple xs => some xs
  | .str s => some (s.map fun c => .str [c])
  | _ => Option.none
noncomputable def bindT (nt : Nat) (d : D) : Option (List D) :=
  if nt = 1 then some [d] else match d with
    | .tuple xs => if xs.length = nt then some xs else Option.none
    | _ => Option.none

noncomputable def filterO (f : α → Option (Option β)) : List α → Option (List β)
  | [] => some []
  | x :: r => (f x).bind fun y => (filterO f r).map fun ys => match y with | some y => y :: ys | Option.none => ys

noncomputable abbrev Oracle := Nat → List D → Option D

mutual
noncomputable def evalC (G : List D) (K : Oracle) : CE → List D → Option D
  | .const d, _ => some d
  | .var i, env => env[i]?
  | .glob i, _ => G[i]?
  | .not e, env => ((evalC G K e env).bind asB).map fun b => .bool (!b)
  | .neg e, env => (evalC G K e env).bind fun d => match d with | .int i => some (.int (-i)) | _ => Option.none
  | .and es, env => evalAnd G K es env
  | .or es, env => evalOr G K es env
  | .bin op a b, env => (evalC G K a env).bind fun x => (evalC G K b env).bind fun y => binop op x y
  | .cmp op a b, env => (evalC G K a env).bind fun x => (evalC G K b env).bind fun y => (cmpop op x y).map .bool
  | .cmp2 op op' a b c, env => (evalC G K a env).bind fun x => (evalC G K b env).bind fun y => (cmpop op x y).bind fun r =>
      if r then (evalC G K c env).bind fun z => (cmpop op' y z).map .bool else some (.bool false)
  | .list es, env => (evalCs G K es env).map .list
  | .tuple es, env => (evalCs G K es env).map .tuple
  | .comp elt nt it, env => (evalIt G K it env).bind fun xs => (mapO (fun d => (bindT nt d).bind fun ts => evalC G K elt (env ++ ts)) xs).map .list
  | .call f es, env => (evalCs G K es env).bind fun args => K f args
  | .isinst e t, env => (evalC G K e env).map fun d => .bool (hasTy t d)
  | .fn1 f e, env => (evalC G K e env).bind fun d => fn1 f d
  | .fn2 f a b, env => (evalC G K a env).bind fun x => (evalC G K b env).bind fun y => fn2 f x y
  | .index a i, env => (evalC G K a env).bind fun x => (evalC G K i env).bind fun y => indexOp x y
  | .slice a lo hi, env => (evalC G K a env).bind fun x => (evalC G K lo env).bind fun l => (evalC G K hi env).bind fun h => sliceOp x l h
  | .range1 _, _ => Option.none
  | .rangeDown _, _ => Option.none
noncomputable def evalCs (G : List D) (K : Oracle) : List CE → List D → Option (List D)
  | [], _ => some []
  | e :: r, env => (evalC G K e env).bind fun d => (evalCs G K r env).map (d :: ·)
noncomputable def evalAnd (G : List D) (K : Oracle) : List CE → List D → Option D
  | [], _ => Option.none
  | [e], env => evalC G K e env
  | e :: r, env => ((evalC G K e env).bind asB).bind fun b => if b then evalAnd G K r env else some (.bool false)
noncomputable def evalOr (G : List D) (K : Oracle) : List CE → List D → Option D
  | [], _ => Option.none
  | [e], env => evalC G K e env
  | e :: r, env => ((evalC G K e env).bind asB).bind fun b => if b then some (.bool true) else evalOr G K r env
noncomputable def evalIt (G : List D) (K : Oracle) : CE → List D → Option (List D)
  | .range1 e, env => (evalC G K e env).bind fun d => match d with | .int i => if okLen i.natAbs then some (upTo i.toNat) else Option.none | _ => Option.none
  | .rangeDown a, env => (evalC G K a env).bind fun x => match x with
      | .int i => if okLen (i.natAbs + 1) then some (downFrom i (i + 1).toNat) else Option.none
      | _ => Option.none
  | .const _, _ => Option.none
  | .var i, env => (env[i]?).bind itemsOf
  | .glob i, _ => (G[i]?).bind itemsOf
  | .not _, _ => Option.none
  | .neg _, _ => Option.none
  | .and _, _ => Option.none
  | .or _, _ => Option.none
  | .bin op a b, env => ((evalC G K a env).bind fun x => (evalC G K b env).bind fun y => binop op x y).bind itemsOf
  | .cmp _ _ _, _ => Option.none
  | .cmp2 _ _ _ _ _, _ => Option.none
  | .list es, env => evalCs G K es env
  | .tuple es, env => evalCs G K es env
  | .comp _ _ _, _ => Option.none
  | .call f es, env => ((evalCs G K es env).bind fun args => K f args).bind itemsOf
  | .isinst _ _, _ => Option.none
  | .fn1 _ _, _ => Option.none
  | .fn2 f a b, env => ((evalC G K a env).bind fun x => (evalC G K b env).bind fun y => fn2 f x y).bind itemsOf
  | .index a i, env => ((evalC G K a env).bind fun x => (evalC G K i env).bind fun y => indexOp x y).bind itemsOf
  | .slice a lo hi, env => ((evalC G K a env).bind fun x => (evalC G K lo env).bind fun l => (evalC G K hi env).bind fun h => sliceOp x l h).bind itemsOf
end

inductive Out where
  | next (env : List D)
  | ret (d : D)

noncomputable def setL (x : Nat) (d : D) (env : List D) : Option (List D) := if x < env.length then some (env.set x d) else Option.none
noncomputable def setAll : List Nat → List D → List D → Option (List D)
  | [], [], env => some env
  | x :: xs, d :: ds, env => (setL x d env).bind (setAll xs ds)
  | _, _, _ => Option.none
noncomputable def bindTo (xs : List Nat) (d : D) (env : List D) : Option (List D) :=
  match xs with
  | [x] => setL x d env
  | xs => match d with
    | _ => Option.none

noncomputable def setAt (c i v : D) : Option D :=
  match c, i with
  | .list xs, .int i => (idx i xs.length).map fun k => .list (xs.set k v)
  | _, _ => Option.none
noncomputable def insertAt (xs : List D) (i : Int) (v : D) : List D := xs.take (clampI i xs.length) ++ v :: xs.drop (clampI i xs.length)

noncomputable def forC (f : D → List D → Option Out) : List D → List D → Option Out
  | [], env => some (.next env)
  | d :: r, env => (f d env).bind fun o => match o with
    | .next env' => forC f r env'
    | .ret v => some (.ret v)
noncomputable def whileC (c : List D → Option D) (b : List D → Option Out) : Nat → List D → Option Out
  | 0, _ => Option.none
  | n + 1, env => ((c env).bind asB).bind fun t => if t then (b env).bind fun o => match o with
      | .next env' => whileC c b n env'
      | .ret v => some (.ret v)
    else some (.next env)

mutual
noncomputable def execC (G : List D) (K : Oracle) (fuel : Nat) : CS → List D → Option Out
  | .assign x e, env => (evalC G K e env).bind fun d => (setL x d env).map .next
  | .setItem x i e, env => (evalC G K e env).bind fun v => (env[x]?).bind fun c => (evalC G K i env).bind fun k => (setAt c k v).bind fun c' => (setL x c' env).map .next
  | .append x e, env => (env[x]?).bind fun c => (evalC G K e env).bind fun v => match c with
      | .list xs => if okLen (xs.length + 1) then (setL x (.list (xs ++ [v])) env).map .next else Option.none
      | _ => Option.none
  | .reverse x, env => (env[x]?).bind fun c => match c with
      | .list xs => (setL x (.list xs.reverse) env).map .next
      | _ => Option.none
  | .expr e, env => (evalC G K e env).map fun _ => .next env
  | .ret e, env => (evalC G K e env).map .ret
  | .ite c t e, env => ((evalC G K c env).bind asB).bind fun b => if b then execCs G K fuel t env else execCs G K fuel e env
  | .for xs it b, env => (evalIt G K it env).bind fun ds => forC (fun d env => (bindTo xs d env).bind (execCs G K fuel b)) ds env
  | .raise _, _ => Option.none
noncomputable def execCs (G : List D) (K : Oracle) (fuel : Nat) : List CS → List D → Option Out
  | [], env => some (.next env)
  | s :: r, env => (execC G K fuel s env).bind fun o => match o with
    | .next env' => execCs G K fuel r env'
    | .ret v => some (.ret v)
end

noncomputable def runF (G : List D) (K : Oracle) (fuel : Nat) (F : CF) (args : List D) : Option D :=
  if args.length = F.np then (execCs G K fuel F.body (args ++ List.replicate (F.ns - F.np) .none)).map fun o => match o with
    | .next _ => .none
    | .ret d => d
  else Option.none

noncomputable def callC (P : Prog) (fuel : Nat) : Nat → Oracle
  | 0, _, _ => Option.none
  | n + 1, f, args => (P.funs[f]?).bind fun F => runF P.globs (callC P fuel n) fuel F args

end Mine

namespace Mine
open PySem
variable {w : World}

noncomputable abbrev SS (s : List Nat) : Str := ⟨s.toArray⟩
noncomputable def PTup (h : Heap) (a : Addr) (vs : Array Value) : Prop := ∃ n, h.get? a = some { cls := .type "tuple", data := .seq vs n }
theorem PTup.isTuple {h : Heap} {a : Addr} {vs : Array Value} (x : PTup h a vs) : h.IsTuple a vs := let ⟨n, e⟩ := x; ⟨_, e, rfl, n, rfl⟩
noncomputable def KeysOk (w : World) (es : Array DictEntry) : Prop := (∀ e ∈ es.toList, ∃ x t, e.key = .str x t ∧ e.hash = hashStr w x) ∨ (∀ e ∈ es.toList, ∃ i t, e.key = .int i t ∧ e.hash = hashInt i)
noncomputable def PDict (w : World) (h : Heap) (a : Addr) (es : Array DictEntry) : Prop := KeysOk w es ∧ ∃ n, h.get? a = some { cls := .type "dict", data := .dict es n }

inductive BindI {α β : Type} (o : Option α) (f : α → Option β) (b : β) : Prop
  | mk (a : α) (h : o = some a) (h' : f a = some b) : BindI o f b
theorem bindI {α β : Type} {o : Option α} {f : α → Option β} {b : β} (h : o.bind f = some b) : BindI o f b := by
  cases o with
  | none => cases h
  | some a => exact ⟨a, rfl, h⟩
inductive MapI {α β : Type} (o : Option α) (f : α → β) (b : β) : Prop
  | mk (a : α) (h : o = some a) (h' : f a = b) : MapI o f b
theorem mapI {α β : Type} {o : Option α} {f : α → β} {b : β} (h : o.map f = some b) : MapI o f b := by
  cases o with
  | none => cases h
  | some a => cases h; exact ⟨a, rfl, rfl⟩
inductive SeqRep (C : Addr → Prop) (n : Nat) (Pl : Addr → Array Value → Prop) (R : List Value → Prop) (v : Value) : Prop
  | mk (a : Addr) (vs : Array Value) (e : v = .ref a) (c : C a) (hz : n ≤ LIM) (hl : Pl a vs) (rl : R vs.toList) : SeqRep C n Pl R v
inductive DictRep (C : Addr → Prop) (n : Nat) (Pl : Addr → Array DictEntry → Prop) (Rk Rv : List Value → Prop) (v : Value) : Prop
  | mk (a : Addr) (es : Array DictEntry) (e : v = .ref a) (c : C a) (hz : n ≤ LIM) (hl : Pl a es) (r1 : Rk (es.toList.map (·.key))) (r2 : Rv (es.toList.map (·.val))) : DictRep C n Pl Rk Rv v
inductive StrRep (s : List Nat) (v : Value) : Prop
  | mk (hz : s.length ≤ LIM) (hc : ∀ c ∈ s, c < 0x110000) (t : Tok) (e : v = .str (SS s) t) : StrRep s v
theorem StrRep.sm {s : List Nat} {v : Value} (r : StrRep s v) : ∀ c ∈ s, c < 0x110000 := by obtain ⟨_, h, _, _⟩ := r; exact h
inductive ConsRep {β : Type} (P : β → Prop) (R : List β → Prop) (vs : List β) : Prop
  | mk (v : β) (vs' : List β) (e : vs = v :: vs') (r : P v) (rs : R vs') : ConsRep P R vs
mutual
noncomputable def Rep (w : World) (h : Heap) (X : Addr → Prop) : D → Value → Prop
  | .none, v => v = .none
  | .bool b, v => v = .bool b
  | .int i, v => ∃ t, v = .int i t
  | .str s, v => StrRep s v
  | .list ds, v => SeqRep (fun a => ¬ X a) ds.length h.PlainList (RepL w h X ds) v
  | .tuple ds, v => SeqRep (fun a => ¬ X a) ds.length (PTup h) (RepL w h X ds) v
noncomputable def RepL (w : World) (h : Heap) (X : Addr → Prop) : List D → List Value → Prop
  | [], vs => vs = []
  | d :: ds, vs => ConsRep (Rep w h X d) (RepL w h X ds) vs
end

noncomputable def KeepBut (X : Addr → Prop) (h h' : Heap) : Prop := ∀ b o, ¬ X b → h.get? b = some o → h'.get? b = some o
noncomputable def Grow (h h' : Heap) : Prop := ∀ b o, h.get? b = some o → h'.get? b = some o
theorem Grow.refl (h : Heap) : Grow h h := fun _ _ e => e
theorem Grow.trans {a b c : Heap} (x : Grow a b) (y : Grow b c) : Grow a c := fun n o e => y n o (x n o e)
theorem Grow.but {h h' : Heap} (g : Grow h h') (X : Addr → Prop) : KeepBut X h h' := fun b o _ e => g b o e

mutual
theorem Rep.mono {h h' : Heap} {X X' : Addr → Prop} (hk : KeepBut X h h') (hX : ∀ b o, h.get? b = some o → X' b → X b) : ∀ {d : D} {v : Value}, Rep w h X d v → Rep w h' X' d v
  | .none, _, r => by simpa [Rep] using r
  | .bool _, _, r => by simpa [Rep] using r
  | .int _, _, r => by simpa [Rep] using r
  | .str _, _, r => by simpa [Rep] using r
  | .list ds, v, r => by
    rw [Rep] at r ⊢
    obtain ⟨a, vs, e, nx, hz, ⟨n, ho⟩, rl⟩ := r
    exact ⟨a, vs, e, fun x => nx (hX a _ ho x), hz, ⟨n, hk a _ nx ho⟩, RepL.mono hk hX rl⟩
  | .tuple ds, v, r => by
    rw [Rep] at r ⊢
    obtain ⟨a, vs, e, nx, hz, ⟨n, ho⟩, rl⟩ := r
    exact ⟨a, vs, e, fun x => nx (hX a _ ho x), hz, ⟨n, hk a _ nx ho⟩, RepL.mono hk hX rl⟩
theorem RepL.mono {h h' : Heap} {X X' : Addr → Prop} (hk : KeepBut X h h') (hX : ∀ b o, h.get? b = some o → X' b → X b) : ∀ {ds : List D} {vs : List Value}, RepL w h X ds vs → RepL w h' X' ds vs
  | [], _, r => by simpa [RepL] using r
  | d :: ds, vs, r => by
    rw [RepL] at r ⊢
    obtain ⟨v, vs', e, r1, r2⟩ := r
    exact ⟨v, vs', e, Rep.mono hk hX r1, RepL.mono hk hX r2⟩
end
theorem Rep.grow {h h' : Heap} {X : Addr → Prop} {d : D} {v : Value} (g : Grow h h') (r : Rep w h X d v) : Rep w h' X d v := r.mono (g.but X) fun _ _ _ x => x
theorem RepL.grow {h h' : Heap} {X : Addr → Prop} {d : List D} {v : List Value} (g : Grow h h') (r : RepL w h X d v) : RepL w h' X d v := r.mono (g.but X) fun _ _ _ x => x
theorem Rep.less {h : Heap} {X X' : Addr → Prop} {d : D} {v : Value} (r : Rep w h X d v) (hX : ∀ b, X' b → X b) : Rep w h X' d v := r.mono (fun _ _ _ e => e) fun b _ _ x => hX b x
theorem RepL.less {h : Heap} {X X' : Addr → Prop} {d : List D} {v : List Value} (r : RepL w h X d v) (hX : ∀ b, X' b → X b) : RepL w h X' d v := r.mono (fun _ _ _ e => e) fun b _ _ x => hX b x

/-! lists of data -/
section
variable {h : Heap} {X : Addr → Prop}
theorem RepL.length : ∀ {ds : List D} {vs : List Value}, RepL w h X ds vs → vs.length = ds.length
  | [], _, r => by rw [RepL] at r; subst r; rfl
  | d :: ds, vs, r => by
    rw [RepL] at r
    obtain ⟨v, vs', rfl, _, r2⟩ := r
    simp [RepL.length r2]
theorem RepL.nil : RepL w h X [] [] := by rw [RepL]
theorem RepL.cons {d : D} {ds : List D} {v : Value} {vs : List Value} (r : Rep w h X d v) (rs : RepL w h X ds vs) : RepL w h X (d :: ds) (v :: vs) := by
  rw [RepL]; exact ⟨v, vs, rfl, r, rs⟩
theorem RepL.append : ∀ {ds es : List D} {vs ws : List Value}, RepL w h X ds vs → RepL w h X es ws → RepL w h X (ds ++ es) (vs ++ ws)
  | [], _, _, _, r, r' => by rw [RepL] at r; subst r; exact r'
  | d :: ds, es, vs, ws, r, r' => by
    rw [RepL] at r
    obtain ⟨v, vs', rfl, r1, r2⟩ := r
    exact .cons r1 (r2.append r')
theorem RepL.get : ∀ {ds : List D} {vs : List Value} {k : Nat} {d : D}, RepL w h X ds vs → ds[k]? = some d → ∃ v, vs[k]? = some v ∧ Rep w h X d v
  | [], _, _, _, _, e => by simp at e
  | d :: ds, vs, k, d', r, e => by
    rw [RepL] at r
    obtain ⟨v, vs', rfl, r1, r2⟩ := r
    cases k with
    | zero => simp at e; subst e; exact ⟨v, rfl, r1⟩
    | succ k => simp at e; simpa using r2.get e
theorem RepL.get' {ds : List D} {vs : List Value} {k : Nat} {v : Value} (r : RepL w h X ds vs) (e : vs[k]? = some v) : ∃ d, ds[k]? = some d ∧ Rep w h X d v := by
  have hk : k < ds.length := by
    have := r.length
    have := (List.getElem?_eq_some_iff.mp e).1
    omega
  obtain ⟨v', e', r'⟩ := r.get (List.getElem?_eq_getElem hk)
  rw [e] at e'; cases e'
  exact ⟨_, List.getElem?_eq_getElem hk, r'⟩
theorem RepL.take : ∀ {ds : List D} {vs : List Value} (n : Nat), RepL w h X ds vs → RepL w h X (ds.take n) (vs.take n)
  | _, _, 0, _ => by simpa using RepL.nil
  | [], _, n + 1, r => by rw [RepL] at r; subst r; simpa using RepL.nil
  | d :: ds, vs, n + 1, r => by
    rw [RepL] at r
    obtain ⟨v, vs', rfl, r1, r2⟩ := r
    simpa using RepL.cons r1 (r2.take n)
theorem RepL.drop : ∀ {ds : List D} {vs : List Value} (n : Nat), RepL w h X ds vs → RepL w h X (ds.drop n) (vs.drop n)
  | _, _, 0, r => by simpa using r
  | [], _, n + 1, r => by rw [RepL] at r; subst r; simpa using RepL.nil
  | d :: ds, vs, n + 1, r => by
    rw [RepL] at r
    obtain ⟨v, vs', rfl, r1, r2⟩ := r
    simpa using r2.drop n
end

/-! the library's data -/
mutual
noncomputable def D.py : D → PyData
  | .none => .none
  | .bool b => .bool b
  | .int i => .int i
  | .str s => .str (SS s)
  | .list xs => .list (D.pys xs)
  | .tuple xs => .tuple (D.pys xs)
noncomputable def D.pys : List D → List PyData
  | [] => []
  | d :: ds => d.py :: D.pys ds
end

theorem reads_of : ∀ (n : Nat) (d : D) {h : Heap} {X : Addr → Prop} {v : Value}, shal n d = true → Rep w h X d v →
    (∃ as, Reads h v d.py as) ∧ d.py.canLay0 = true ∧ d.py.depth ≤ n := by
  intro n
  have all : ∀ (n : Nat), (∀ (d : D) {h : Heap} {X : Addr → Prop} {v : Value}, shal n d = true → Rep w h X d v → (∃ as, Reads h v d.py as) ∧ d.py.canLay0 = true ∧ d.py.depth ≤ n) →
      ∀ (ds : List D) {h : Heap} {X : Addr → Prop} {vs : List Value}, ds.all (shal n) = true → RepL w h X ds vs → (∃ as, ReadsAll h vs (D.pys ds) as) ∧ PyData.canLayAll0 (D.pys ds) = true ∧ PyData.depthAll (D.pys ds) ≤ n := by
    intro n ih ds
    induction ds with
    | nil => intro h X vs _ r; rw [RepL] at r; subst r; exact ⟨⟨_, .nil⟩, by simp [D.pys, PyData.canLayAll0], by simp [D.pys, PyData.depthAll]⟩
    | cons d ds ih' =>
      intro h X vs hs r
      rw [RepL] at r
      obtain ⟨v, vs', rfl, r1, r2⟩ := r
      simp only [List.all_cons, Bool.and_eq_true] at hs
      obtain ⟨⟨as, q⟩, c1, d1⟩ := ih d hs.1 r1
      obtain ⟨⟨bs, q'⟩, c2, d2⟩ := ih' hs.2 r2
      exact ⟨⟨_, .cons q q'⟩, by simp [D.pys, PyData.canLayAll0, c1, c2], by simp only [D.pys, PyData.depthAll]; omega⟩
  induction n with
  | zero =>
    intro d h X v hs r
    cases d with
    | none => rw [Rep] at r; subst r; exact ⟨⟨_, .none⟩, by simp [D.py, PyData.canLay0], by simp [D.py, PyData.depth]⟩
    | bool b => rw [Rep] at r; subst r; exact ⟨⟨_, .bool _⟩, by simp [D.py, PyData.canLay0], by simp [D.py, PyData.depth]⟩
    | int i => rw [Rep] at r; obtain ⟨t, rfl⟩ := r; exact ⟨⟨_, .int _ _⟩, by simp [D.py, PyData.canLay0], by simp [D.py, PyData.depth]⟩
    | str s => rw [Rep] at r; obtain ⟨_, hc, t, rfl⟩ := r; exact ⟨⟨_, .str _ _⟩, by simpa [D.py, PyData.canLay0, PyData.strOk] using hc, by simp [D.py, PyData.depth]⟩
    | list _ => simp [shal] at hs
    | tuple _ => simp [shal] at hs
  | succ n ih =>
    intro d h X v hs r
    cases d with
    | none => rw [Rep] at r; subst r; exact ⟨⟨_, .none⟩, by simp [D.py, PyData.canLay0], by simp [D.py, PyData.depth]⟩
    | bool b => rw [Rep] at r; subst r; exact ⟨⟨_, .bool _⟩, by simp [D.py, PyData.canLay0], by simp [D.py, PyData.depth]⟩
    | int i => rw [Rep] at r; obtain ⟨t, rfl⟩ := r; exact ⟨⟨_, .int _ _⟩, by simp [D.py, PyData.canLay0], by simp [D.py, PyData.depth]⟩
    | str s => rw [Rep] at r; obtain ⟨_, hc, t, rfl⟩ := r; exact ⟨⟨_, .str _ _⟩, by simpa [D.py, PyData.canLay0, PyData.strOk] using hc, by simp [D.py, PyData.depth]⟩
    | list ds =>
      rw [Rep] at r
      obtain ⟨a, vs, rfl, nx, _, ⟨k, ho⟩, rl⟩ := r
      obtain ⟨⟨as, q⟩, c, e⟩ := all n (fun d => ih d) ds (by simpa [shal] using hs) rl
      exact ⟨⟨_, .list ho rfl rfl q⟩, by simpa [D.py, PyData.canLay0] using c, by simp only [D.py, PyData.depth]; omega⟩
    | tuple ds =>
      rw [Rep] at r
      obtain ⟨a, vs, rfl, nx, _, ⟨k, ho⟩, rl⟩ := r
      obtain ⟨⟨as, q⟩, c, e⟩ := all n (fun d => ih d) ds (by simpa [shal] using hs) rl
      exact ⟨⟨_, .tuple ho rfl rfl q⟩, by simpa [D.py, PyData.canLay0] using c, by simp only [D.py, PyData.depth]; omega⟩

theorem eqv_py : ∀ (n : Nat) (a b : D), shal n a = true → shal n b = true → PyData.eqv a.py b.py = D.eq a b := by
  have all : ∀ n, (∀ (a b : D), shal n a = true → shal n b = true → PyData.eqv a.py b.py = D.eq a b) →
      ∀ (as bs : List D), as.all (shal n) = true → bs.all (shal n) = true → PyData.eqvAll (D.pys as) (D.pys bs) = D.eqs as bs := by
    intro n ih as
    induction as with
    | nil => intro bs _ _; cases bs <;> simp [D.pys, PyData.eqvAll, D.eqs]
    | cons a as ih' =>
      intro bs ha hb
      cases bs with
      | nil => simp [D.pys, PyData.eqvAll, D.eqs]
      | cons b bs =>
        simp only [List.all_cons, Bool.and_eq_true] at ha hb
        simp only [D.pys, PyData.eqvAll, D.eqs, ih a b ha.1 hb.1, ih' bs ha.2 hb.2]
  intro n
  induction n with
  | zero =>
    intro a b ha hb
    cases a <;> cases b <;> first
      | (simp [shal] at ha; done)
      | (simp [shal] at hb; done)
      | (simp [D.py, PyData.eqv, D.eq]; done)
      | (simp only [D.py, PyData.eqv, D.eq]; rw [Bool.eq_iff_iff]; simp [SS]; done)
  | succ n ih =>
    intro a b ha hb
    cases a <;> cases b <;> first
      | (simp [shal] at ha; done)
      | (simp [shal] at hb; done)
      | (simp [D.py, PyData.eqv, D.eq]; done)
      | (simp only [D.py, PyData.eqv, D.eq]; rw [Bool.eq_iff_iff]; simp [SS]; done)
      | (simp only [D.py, PyData.eqv, D.eq]; exact all n ih _ _ (by simpa [shal] using ha) (by simpa [shal] using hb))
end Mine

namespace Mine
open PySem
variable {w : World}

noncomputable def upd (V : Str → Option Value) (x : Str) (v : Value) : Str → Option Value := fun y => if y = x then some v else V y

noncomputable def FrameAddr (env : Env) (a : Addr) : Prop := a = env.locals ∨ ∃ x, env.cells.lookup x = some a

structure Fm (env : Env) (h : Heap) (V : Str → Option Value) : Prop where
  kind : env.scope.kind = .function
  ns : ∃ m, h.Ns env.locals m ∧ ∀ x, env.kindOf x = some .local → m x = V x
  cell : ∀ x, env.kindOf x = some .cell → ∃ c, env.cells.lookup x = some c ∧ h.IsCell c (V x)
  apart : ∀ x y c, env.cells.lookup x = some c → env.cells.lookup y = some c → x = y
  lc : ∀ x c, env.cells.lookup x = some c → c ≠ env.locals

theorem Fm.keep {env : Env} {h h' : Heap} {V : Str → Option Value} (F : Fm env h V) (g : ∀ b o, FrameAddr env b → h.get? b = some o → h'.get? b = some o) : Fm env h' V := by
  obtain ⟨m, ⟨o, es, ep, ho, r⟩, hm⟩ := F.ns
  refine ⟨F.kind, ⟨m, ⟨o, es, ep, g _ _ (.inl rfl) ho, r⟩, hm⟩, fun x hx => ?_, F.apart, F.lc⟩
  obtain ⟨c, hc, o, ho, hd⟩ := F.cell x hx
  exact ⟨c, hc, o, g _ _ (.inr ⟨x, hc⟩) ho, hd⟩
theorem Fm.grow {env : Env} {h h' : Heap} {V : Str → Option Value} (F : Fm env h V) (g : Grow h h') : Fm env h' V := F.keep fun b o _ e => g b o e

section
variable {M : Model} {A : Around} {E : Value → Shared → Prop} {s : Shared} {env : Env} {V : Str → Option Value}

noncomputable def isVar (env : Env) (x : Str) : Prop := env.kindOf x = some .local ∨ env.kindOf x = some .cell

theorem Fm.load {x : Str} {v : Value} {Q : Value → Shared → Prop} (F : Fm env s.heap V) (hx : isVar env x) (hv : V x = some v) (h : Q v s) : wpAny M A (loadName env x) Q E s := by
  rcases hx with hx | hx
  · obtain ⟨m, hn, hm⟩ := F.ns
    exact wpAny_loadName_local F.kind hx hn ((hm x hx).trans hv) h
  · obtain ⟨c, hc, hi⟩ := F.cell x hx
    exact wpAny_loadName_cell F.kind hx hc (hv ▸ hi) h

end

/-! ownership: depth of what a slot owns (none: not bound) -/
noncomputable abbrev Own := Option Nat
/-- an owned object: its address, its slot, its level -/
noncomputable abbrev Owned := List (Addr × Nat × Nat)

noncomputable def All2 {α β : Type} (P : α → β → Prop) : List α → List β → Prop
  | [], vs => vs = []
  | d :: ds, vs => ConsRep (P d) (All2 P ds) vs
theorem All2.imp {α β : Type} {P Q : α → β → Prop} (hi : ∀ a b, P a b → Q a b) : ∀ {as : List α} {bs : List β}, All2 P as bs → All2 Q as bs
  | [], _, r => r
  | _ :: _, _, ⟨v, vs', e, p, r⟩ => ⟨v, vs', e, hi _ _ p, All2.imp hi r⟩
theorem All2.length {α β : Type} {P : α → β → Prop} : ∀ {as : List α} {bs : List β}, All2 P as bs → bs.length = as.length
  | [], _, r => by simp [show _ = [] from r]
  | _ :: _, _, ⟨v, vs', e, p, r⟩ => by subst e; simp [r.length]
theorem repL_all2 {h : Heap} {X : Addr → Prop} : ∀ {ds : List D} {vs : List Value}, RepL w h X ds vs ↔ All2 (Rep w h X) ds vs
  | [], vs => by rw [RepL]; rfl
  | d :: ds, vs => by
    rw [RepL]
    show _ ↔ ConsRep (Rep w h X d) (All2 (Rep w h X) ds) vs
    rw [show RepL w h X ds = All2 (Rep w h X) ds from funext fun vs => propext repL_all2]

/-- a value whose objects down to a depth are owned -/
noncomputable def OwnR (w : World) (h : Heap) (X : Addr → Prop) (N : Addr → Nat → Prop) : Nat → Nat → D → Value → Prop
  | 0, _, d, v => Rep w h X d v
  | n + 1, l, .list ds, v => SeqRep (fun a => N a l) ds.length h.PlainList (All2 (OwnR w h X N n (l + 1)) ds) v
  | _ + 1, _, d, v => Rep w h X d v

theorem OwnR.mono {h h' : Heap} {X X' : Addr → Prop} {N N' : Addr → Nat → Prop} (hk : KeepBut X h h') (hX : ∀ b o, h.get? b = some o → X' b → X b)
    (hN : ∀ a l o, N a l → h.get? a = some o → N' a l ∧ h'.get? a = some o) : ∀ (n l : Nat) (d : D) (v : Value), OwnR w h X N n l d v → OwnR w h' X' N' n l d v := by
  intro n
  induction n with
  | zero => intro l d v r; exact Rep.mono hk hX r
  | succ n ih =>
    intro l d v r
    cases d with
    | list ds =>
      obtain ⟨a, vs, e, ha, hz, ⟨k, ho⟩, r⟩ := r
      obtain ⟨h1, h2⟩ := hN a l _ ha ho
      exact ⟨a, vs, e, h1, hz, ⟨k, h2⟩, r.imp (ih (l + 1))⟩
    | none => exact Rep.mono (d := .none) hk hX r
    | bool b => exact Rep.mono (d := .bool b) hk hX r
    | int i => exact Rep.mono (d := .int i) hk hX r
    | str i => exact Rep.mono (d := .str i) hk hX r
    | tuple i => exact Rep.mono (d := .tuple i) hk hX r

/-- ownership given up below a depth -/
theorem OwnR.drop {h : Heap} {X X' : Addr → Prop} {N N' : Addr → Nat → Prop} (hX : ∀ b, X' b → X b) : ∀ (n l m : Nat) (d : D) (v : Value), m ≤ n →
    (∀ a j, N a j → l ≤ j → j < l + m → N' a j) → (∀ a j, N a j → l + m ≤ j → ¬ X' a) → OwnR w h X N n l d v → OwnR w h X' N' m l d v := by
  intro n
  induction n with
  | zero =>
    intro l m d v hm _ _ r
    obtain rfl : m = 0 := Nat.le_zero.mp hm
    exact Rep.less r hX
  | succ n ih =>
    intro l m d v hm h1 h2 r
    cases m with
    | zero =>
      have ch : ∀ d v, OwnR w h X N n (l + 1) d v → Rep w h X' d v := fun d v r => ih (l + 1) 0 d v (Nat.zero_le _) (fun _ _ _ q1 q2 => absurd q2 (by omega)) (fun a j q1 q2 => h2 a j q1 (by omega)) r
      cases d with
      | list ds =>
        obtain ⟨a, vs, e, ha, hz, hl, r⟩ := r
        show Rep w h X' _ _
        rw [Rep]
        exact ⟨a, vs, e, h2 a l ha (by omega), hz, hl, repL_all2.mpr (r.imp ch)⟩
      | none => exact Rep.less (d := .none) r hX
      | bool b => exact Rep.less (d := .bool b) r hX
      | int i => exact Rep.less (d := .int i) r hX
      | str i => exact Rep.less (d := .str i) r hX
      | tuple i => exact Rep.less (d := .tuple i) r hX
    | succ m =>
      have ch : ∀ d v, OwnR w h X N n (l + 1) d v → OwnR w h X' N' m (l + 1) d v := fun d v r => ih (l + 1) m d v (by omega) (fun a j q1 q2 q3 => h1 a j q1 (by omega) (by omega)) (fun a j q1 q2 => h2 a j q1 (by omega)) r
      cases d with
      | list ds =>
        obtain ⟨a, vs, e, ha, hz, hl, r⟩ := r
        exact ⟨a, vs, e, h1 a l ha (by omega) (by omega), hz, hl, r.imp ch⟩
      | none => exact Rep.less (d := .none) r hX
      | bool b => exact Rep.less (d := .bool b) r hX
      | int i => exact Rep.less (d := .int i) r hX
      | str i => exact Rep.less (d := .str i) r hX
      | tuple i => exact Rep.less (d := .tuple i) r hX

noncomputable def Cov (R : List (Nat × Nat)) (i l : Nat) : Prop := ∃ l', l' ≤ l ∧ (i, l') ∈ R

/-- what a value that reaches R must not hold -/
noncomputable def XR (X₀ : Addr → Prop) (env : Env) (own : Owned) (R : List (Nat × Nat)) : Addr → Prop :=
  fun a => X₀ a ∨ FrameAddr env a ∨ ∃ i l, (a, i, l) ∈ own ∧ ¬ Cov R i l

theorem XR.anti {X₀ : Addr → Prop} {env : Env} {own : Owned} {R R' : List (Nat × Nat)} (hR : ∀ p ∈ R, p ∈ R') : ∀ a, XR X₀ env own R' a → XR X₀ env own R a := by
  rintro a (h | h | ⟨i, l, hm, hc⟩)
  · exact .inl h
  · exact .inr (.inl h)
  · exact .inr (.inr ⟨i, l, hm, fun ⟨l', hl, hr⟩ => hc ⟨l', hl, hR _ hr⟩⟩)

theorem nodup_inj {α β : Type} {f : α → β} : ∀ {l : List α}, (l.map f).Nodup → ∀ {a b : α}, a ∈ l → b ∈ l → f a = f b → a = b
  | [], _, _, _, h, _, _ => nomatch h
  | x :: l, nd, a, b, ha, hb, e => by
    rw [List.map_cons, List.nodup_cons] at nd
    rcases List.mem_cons.mp ha with ea | ha'
    · rcases List.mem_cons.mp hb with eb | hb'
      · rw [ea, eb]
      · exact absurd (ea ▸ e ▸ List.mem_map_of_mem hb') nd.1
    · rcases List.mem_cons.mp hb with eb | hb'
      · exact absurd (eb ▸ e ▸ List.mem_map_of_mem ha') nd.1
      · exact nodup_inj nd.2 ha' hb' e

noncomputable def Alloc (h : Heap) (a : Addr) : Prop := ∃ o, h.get? a = some o
theorem Alloc.grow {h h' : Heap} {a : Addr} (g : Grow h h') (x : Alloc h a) : Alloc h' a := let ⟨o, e⟩ := x; ⟨o, g a o e⟩
theorem not_alloc {h : Heap} {a : Addr} (e : h.get? a = none) : ¬ Alloc h a := fun ⟨o, q⟩ => by rw [e] at q; cases q
theorem none_of_grow {h h' : Heap} {a : Addr} (g : Grow h h') (e : h'.get? a = none) : h.get? a = none := by
  cases q : h.get? a with
  | none => rfl
  | some o => have := g a o q; rw [e] at this; cases this

/-- the state of a frame -/
structure St (w : World) (base : Heap) (X₀ : Addr → Prop) (env : Env) (nm : List (Option Str)) (Δ : List Own) (own : Owned) (V : Str → Option Value) (ds : List D) (h : Heap) : Prop where
  keep : Grow base h
  xal : ∀ a, X₀ a → Alloc h a
  fm : Fm env h V
  fnew : ∀ a, FrameAddr env a → base.get? a = none ∧ Alloc h a
  onew : ∀ p ∈ own, base.get? p.1 = none ∧ Alloc h p.1 ∧ ¬ FrameAddr env p.1 ∧ ¬ X₀ p.1
  nodup : (own.map (·.1)).Nodup
  vars : ∀ (i : Nat) (x : Str), nm[i]? = some (some x) → isVar env x
  inj : ∀ (i j : Nat) (x : Str), nm[i]? = some (some x) → nm[j]? = some (some x) → i = j
  lenΔ : Δ.length = nm.length
  lend : ds.length = nm.length
  lev : ∀ p ∈ own, ∃ n, Δ.getD p.2.1 none = some n ∧ p.2.2 < n
  slots : ∀ (i n : Nat) (x : Str), nm[i]? = some (some x) → Δ.getD i none = some n → ∃ v d, V x = some v ∧ ds[i]? = some d ∧ OwnR w h (XR X₀ env own []) (fun a l => (a, i, l) ∈ own) n 0 d v

section
variable {base : Heap} {X₀ : Addr → Prop} {env : Env} {nm : List (Option Str)} {Δ : List Own} {own : Owned} {V : Str → Option Value} {ds : List D} {h h' : Heap}

theorem St.xr_al (S : St w base X₀ env nm Δ own V ds h) {R : List (Nat × Nat)} : ∀ a, XR X₀ env own R a → Alloc h a := by
  rintro a (q | q | ⟨i, l, hm, _⟩)
  · exact S.xal a q
  · exact (S.fnew a q).2
  · exact (S.onew _ hm).2.1

theorem St.grow (S : St w base X₀ env nm Δ own V ds h) (g : Grow h h') : St w base X₀ env nm Δ own V ds h' where
  keep := S.keep.trans g
  xal := fun a q => (S.xal a q).grow g
  fm := S.fm.grow g
  fnew := fun a q => ⟨(S.fnew a q).1, (S.fnew a q).2.grow g⟩
  onew := fun p q => ⟨(S.onew p q).1, (S.onew p q).2.1.grow g, (S.onew p q).2.2⟩
  nodup := S.nodup
  vars := S.vars
  inj := S.inj
  lenΔ := S.lenΔ
  lend := S.lend
  lev := S.lev
  slots := fun i n x hx hn => by
    obtain ⟨v, d, e1, e2, r⟩ := S.slots i n x hx hn
    exact ⟨v, d, e1, e2, OwnR.mono (g.but _) (fun _ _ _ q => q) (fun a l o q e => ⟨q, g _ _ e⟩) n 0 d v r⟩

end
end Mine

namespace Mine
open PySem

/-! static part: what a value reaches, how deep it is fresh, whether its names are bound -/
noncomputable def root : CE → Option (Nat × Nat)
  | .var i => some (i, 0)
  | .index a _ => (root a).map fun p => (p.1, p.2 + 1)
  | _ => none

mutual
noncomputable def reach : CE → List (Nat × Nat)
  | .var i => [(i, 0)]
  | .and es => reachs es
  | .or es => reachs es
  | .bin _ a b => (match root a with | some p => [(p.1, p.2 + 1)] | none => reach a) ++ (match root b with | some p => [(p.1, p.2 + 1)] | none => reach b)
  | .list es => reachs es
  | .tuple es => reachs es
  | .comp elt _ it => reach elt ++ (match root it with | some p => [(p.1, p.2 + 1)] | none => reach it)
  | .call _ es => reachs es
  | .fn1 f e => (match f with
      | .tuple => (match root e with | some p => [(p.1, p.2 + 1)] | none => reach e)
      | .list => (match root e with | some p => [(p.1, p.2 + 1)] | none => reach e)
      | .sorted => (match root e with | some p => [(p.1, p.2 + 1)] | none => reach e)
      | _ => [])
  | .index a _ => (match root a with | some p => [(p.1, p.2 + 1)] | none => reach a)
  | .slice a _ _ => (match root a with | some p => [(p.1, p.2 + 1)] | none => reach a)
  | .const _ => []
  | .glob _ => []
  | .not _ => []
  | .neg _ => []
  | .cmp _ _ _ => []
  | .cmp2 _ _ _ _ _ => []
  | .isinst _ _ => []
  | .fn2 _ _ _ => []
  | .range1 _ => []
  | .rangeDown _ => []
noncomputable def reachs : List CE → List (Nat × Nat)
  | [] => []
  | e :: r => reach e ++ reachs r
end
noncomputable def elems (e : CE) : List (Nat × Nat) := match root e with | some p => [(p.1, p.2 + 1)] | none => reach e

mutual
/-- the depth to which a value is new -/
noncomputable def fr : CE → Nat
  | .list es => 1 + frs es
  | .comp _ _ _ => 1
  | .bin _ _ _ => 1
  | .slice _ _ _ => 1
  | .fn1 .list _ => 1
  | .fn1 .sorted _ => 1
  | .fn1 .listRev _ => 1
  | _ => 0
/-- all of these are new lists -/
noncomputable def frs : List CE → Nat
  | [] => 0
  | [e] => min 1 (fr e)
  | e :: r => min (min 1 (fr e)) (frs r)
end

noncomputable def bound (Δ : List Own) (i : Nat) : Bool := (Δ.getD i none).isSome
mutual
noncomputable def defd (Δ : List Own) : CE → Bool
  | .const _ => true
  | .var i => bound Δ i
  | .glob _ => true
  | .not e => defd Δ e
  | .neg e => defd Δ e
  | .and es => defds Δ es
  | .or es => defds Δ es
  | .bin _ a b => defd Δ a && defd Δ b
  | .cmp _ a b => defd Δ a && defd Δ b
  | .cmp2 _ _ a b c => defd Δ a && defd Δ b && defd Δ c
  | .list es => defds Δ es
  | .tuple es => defds Δ es
  | .comp elt nt it => defd Δ it && defd (Δ ++ List.replicate nt (some 0)) elt
  | .call _ es => defds Δ es
  | .isinst e _ => defd Δ e
  | .fn1 _ e => defd Δ e
  | .fn2 _ a b => defd Δ a && defd Δ b
  | .index a i => defd Δ a && defd Δ i
  | .slice a l h => defd Δ a && defd Δ l && defd Δ h
  | .range1 e => defd Δ e
  | .rangeDown a => defd Δ a
noncomputable def defds (Δ : List Own) : List CE → Bool
  | [] => true
  | e :: r => defd Δ e && defds Δ r
end

/-! the compiled text is the text -/
structure Ctx where
  fn : List Str
  gl : List Str
  sc : Scope
  nm : List (Option Str)

noncomputable def Ctx.glob (c : Ctx) (x : Str) : Bool := c.sc.names.lookup x == some .globalImplicit && x != ("__debug__" : Str)

noncomputable def sameConst : Const → D → Bool
  | .none, .none => true
  | .bool a, .bool b => a == b
  | .int i, .int j => i == j
  | .str s, .str t => s.cps.toList == t && decide (t.length ≤ LIM) && t.all (· < 0x110000)
  | _, _ => false

noncomputable def callOf : Expr → Option (Str × List Expr)
  | .Call (.Name x _) as [] _ => some (x, as)
  | _ => none
theorem callOf_eq {e : Expr} {x : Str} {as : List Expr} (h : callOf e = some (x, as)) : ∃ p q, e = .Call (.Name x p) as [] q := by
  unfold callOf at h
  split at h
  · cases h; exact ⟨_, _, rfl⟩
  · cases h
/-- a method's call whose name stands on the line where the call begins, on a name or a written value -/
noncomputable def plainRecv : Expr → Bool
  | .Name .. => true
  | .Constant .. => true
  | .Subscript .. => true
  | _ => false
theorem plainRecv_base {o : Expr} {x : Str} {env : Env} (h : plainRecv o = true) : attributeBase o x env (eval o env) = eval o env := by
  cases o <;> first | rfl | cases h
noncomputable def methOf : Expr → Option (Expr × Str × List Expr)
  | .Call (.Attribute o x p) as [] q => if (p.endLine == q.line && plainRecv o) = true then some (o, x, as) else none
  | _ => none
theorem methOf_eq {e o : Expr} {x : Str} {as : List Expr} (h : methOf e = some (o, x, as)) : ∃ p q, e = .Call (.Attribute o x p) as [] q ∧ (p.endLine == q.line) = true ∧ ∀ env : Env, attributeBase o x env (eval o env) = eval o env := by
  unfold methOf at h
  split at h
  · split at h
    · rename_i hk
      cases h
      rw [Bool.and_eq_true] at hk
      exact ⟨_, _, rfl, hk.1, fun env => plainRecv_base hk.2⟩
    · cases h
  · cases h

noncomputable def opOf : BOp → Operator
  | .add => .Add
  | .sub => .Sub
  | .mul => .Mult
  | .div => .FloorDiv
  | .mod => .Mod
noncomputable def cmpOf : COp → CmpOp
  | .eq => .Eq
  | .ne => .NotEq
  | .lt => .Lt
  | .le => .LtE
  | .gt => .Gt
noncomputable def tyName : Ty → Str
  | .str => "str"
  | .list => "list"
  | .tuple => "tuple"
  | .int => "int"
  | .bool => "bool"
noncomputable def fn1Name : Fn1 → Str
  | .len => "len"
  | .ord => "ord"
  | .all => "all"
  | .tuple => "tuple"
  | .list => "list"
  | .int => "int"
  | .str => "str"
  | .sum => "sum"
  | .min1 => "min"
  | .sorted => "sorted"
  | .listRev => "list"
noncomputable def isName (c : Ctx) (e : Expr) (x : Str) : Bool := match e with
  | .Name y _ => y == x && c.glob x
  | _ => false

/-- targets of a comprehension, as names -/
noncomputable def targetNames : Expr → Option (List Str)
  | .Name x _ => some [x]
  | .Tuple es _ _ => es.mapM fun | .Name x _ => some x | _ => none
  | _ => none

/-- how a name of the enclosing block is seen in a comprehension's block -/
noncomputable def seen (outer : Scope) (sc : Scope) (ts : List Str) (x : Option Str) : Option Str :=
  match x with
  | some x => if !ts.contains x && sc.names.lookup x == some .free && outer.names.lookup x == some .cell then some x else none
  | none => none
noncomputable def relab (sc outer : Scope) : Scope :=
  { sc with names := sc.names.map fun (n, k) => if (k == .free && outer.kind == .function && outer.names.lookup n == some .cell) then (n, .cell) else (n, k) }
noncomputable def Ctx.inner (c : Ctx) (sc : Scope) (ts : List Str) : Ctx :=
  { c with sc := relab sc c.sc, nm := c.nm.map (seen c.sc sc ts) ++ ts.map some }
noncomputable def compScope (c : Ctx) (sc : Scope) (ts : List Str) : Bool :=
  sc.kind == .function && sc.names.all (fun (n, k) => k != .cell && (k != .local || sc.names.lookup n == some .local) && (k != .free || c.sc.names.lookup n == some .cell)) && ts.all (fun t => sc.names.lookup t == some .local) && ts.eraseDups.length == ts.length

noncomputable def isNm : Expr → Bool
  | .Name .. => true
  | _ => false
noncomputable def isOne : Expr → Bool
  | .Constant k _ _ => k == .int 1
  | _ => false
noncomputable def isNeg1 : Expr → Bool
  | .UnaryOp op k _ => op == .USub && isOne k
  | _ => false

theorem isNeg1_eq {e : Expr} (h : isNeg1 e = true) : ∃ p q r, e = .UnaryOp .USub (.Constant (.int 1) q r) p := by
  cases e with
  | UnaryOp op k p =>
    have h : (op == .USub && isOne k) = true := h
    rw [Bool.and_eq_true, beq_iff_eq] at h
    obtain ⟨rfl, h⟩ := h
    cases k with
    | Constant v q r =>
      obtain rfl := eq_of_beq (show (v == Const.int 1) = true from h)
      exact ⟨p, q, r, rfl⟩
    | _ => cases h
  | _ => cases h
noncomputable def isNoneC : CE → Bool
  | .const .none => true
  | _ => false
mutual
noncomputable def chkE (c : Ctx) : Expr → CE → Bool
  | e, .const d => (match e with | .Constant k _ _ => sameConst k d | _ => false)
  | e, .var i => (match e with | .Name x _ => c.nm[i]? == some (some x) && x != ("__debug__" : Str) | _ => false)
  | e, .glob i => (match e with | .Name x _ => c.gl[i]? == some x && c.glob x | _ => false)
  | e, .not a => (match e with | .UnaryOp .Not x _ => chkE c x a | _ => false)
  | e, .neg a => (match e with | .UnaryOp .USub x _ => chkE c x a | _ => false)
  | e, .and es => (match e with | .BoolOp .And xs _ => chkEs c xs es | _ => false)
  | e, .or es => (match e with | .BoolOp .Or xs _ => chkEs c xs es | _ => false)
  | e, .bin op a b => (match e with | .BinOp x o y _ => o == opOf op && chkE c x a && chkE c y b | _ => false)
  | e, .cmp op a b => (match e with | .Compare x [o] [y] _ => o == cmpOf op && chkE c x a && chkE c y b | _ => false)
  | e, .cmp2 op op' a b d => (match e with | .Compare x [o, o'] [y, z] _ => o == cmpOf op && o' == cmpOf op' && chkE c x a && chkE c y b && chkE c z d | _ => false)
  | e, .list es => (match e with | .List xs _ => decide (es.length ≤ LIM) && chkEs c xs es | _ => false)
  | e, .tuple es => (match e with | .Tuple xs _ _ => decide (es.length ≤ LIM) && chkEs c xs es | _ => false)
  | e, .comp elt nt it => (match e with
      | .ListComp x [⟨t, i, [], 0⟩] sc _ => (match targetNames t with
          | some ts => ts.length == nt && compScope c sc ts && chkE c i it && chkE (c.inner sc ts) x elt && isNm t
          | none => false)
      | _ => false)
  | e, .call f es => (match callOf e with | some (x, as) => c.fn[f]? == some x && c.glob x && chkEs c as es && !as.isEmpty | none => false)
  | e, .isinst a t => (match callOf e with | some (x, [y, z]) => x == ("isinstance" : Str) && c.glob x && isName c z (tyName t) && chkE c y a | _ => false)
  | e, .fn1 f a => (match f with
      | .listRev => (match callOf e with
          | some (x, [y]) => x == ("list" : Str) && c.glob x && (match callOf y with | some (z, [u]) => z == ("reversed" : Str) && c.glob z && chkE c u a | _ => false)
          | _ => false)
      | f => (match callOf e with | some (x, [y]) => x == fn1Name f && c.glob x && chkE c y a | _ => false))
  | e, .fn2 f a b => (match f with
      | .min => (match callOf e with | some (x, [y, z]) => x == ("min" : Str) && c.glob x && chkE c y a && chkE c z b | _ => false)
      | .join => (match methOf e with | some (o, x, [y]) => x == ("join" : Str) && chkE c o a && chkE c y b | _ => false))
  | e, .index a i => (match e with | .Subscript x (.Slice ..) _ => false | .Subscript x y _ => chkE c x a && chkE c y i | _ => false)
  | e, .slice a l h => (match e with
      | .Subscript x (.Slice lo hi none _) _ => chkE c x a && (match lo with | some y => chkE c y l | none => isNoneC l) && (match hi with | some y => chkE c y h | none => isNoneC h)
      | _ => false)
  | e, .range1 a => (match callOf e with | some (x, [y]) => x == ("range" : Str) && c.glob x && chkE c y a | _ => false)
  | e, .rangeDown a => (match callOf e with
      | some (x, [y, z, u]) => x == ("range" : Str) && c.glob x && isNeg1 z && isNeg1 u && chkE c y a
      | _ => false)
noncomputable def chkEs (c : Ctx) : List Expr → List CE → Bool
  | [], [] => true
  | x :: xs, e :: es => chkE c x e && chkEs c xs es
  | _, _ => false
noncomputable def chkKs (c : Ctx) : List (Option Expr) → List CE → Bool
  | [], [] => true
  | some x :: xs, e :: es => chkE c x e && chkKs c xs es
  | _, _ => false
end

/-! statements -/
noncomputable def lowest (i : Nat) : List (Nat × Nat) → Option Nat
  | [] => none
  | (j, l) :: r => if j = i then some (match lowest i r with | some m => min l m | none => l) else lowest i r
noncomputable def down (R : List (Nat × Nat)) (Δ : List Own) : List Own :=
  Δ.mapIdx fun i o => match o, lowest i R with
    | some n, some m => some (min n m)
    | o, _ => o
noncomputable def joinO : Own → Own → Own
  | some n, some m => some (min n m)
  | _, _ => none
noncomputable def joinD : List Own → List Own → List Own
  | a :: as, b :: bs => joinO a b :: joinD as bs
  | _, _ => []
/-- none: control never comes through -/
noncomputable abbrev Fall := Option (List Own)
noncomputable def joinF : Fall → Fall → Fall
  | some a, some b => some (joinD a b)
  | none, b => b
  | a, none => a

noncomputable def lenF (n : Nat) : Fall → Bool
  | none => true
  | some Δ => Δ.length == n

noncomputable def fixD (f : List Own → Option Fall) : Nat → List Own → Option (List Own)
  | 0, _ => none
  | n + 1, Δ => (f Δ).bind fun r => match r with
    | none => some Δ
    | some Δ' => if Δ'.length = Δ.length then (if joinD Δ Δ' = Δ then some Δ else fixD f n (joinD Δ Δ')) else none

mutual
noncomputable def tyS : CS → List Own → Option Fall
  | .assign x e, Δ => if defd Δ e && decide (x < Δ.length) then some (some ((down (reach e) Δ).set x (some (fr e)))) else none
  | .setItem x i e, Δ => if defd Δ e && defd Δ i then (match (down (reach e) Δ).getD x none with
      | some (n + 1) => some (some ((down (reach e) Δ).set x (some (min (n + 1) (1 + fr e)))))
      | _ => none) else none
  | .append x e, Δ => if defd Δ e then (match (down (reach e) Δ).getD x none with
      | some (n + 1) => some (some ((down (reach e) Δ).set x (some (min (n + 1) (1 + fr e)))))
      | _ => none) else none
  | .reverse x, Δ => (match Δ.getD x none with
      | some (n + 1) => some (some Δ)
      | _ => none)
  | .expr e, Δ => if defd Δ e then some (some Δ) else none
  | .ret e, Δ => if defd Δ e then some none else none
  | .ite c t e, Δ => if defd Δ c then (tySs t Δ).bind fun a => (tySs e Δ).bind fun b => if lenF Δ.length a && lenF Δ.length b then some (joinF a b) else none else none
  | .for xs it b, Δ => if defd Δ it && xs.all (· < Δ.length) then
      (fixD (fun Δ' => tySs b (xs.foldl (fun Δ x => Δ.set x (some 0)) Δ')) 8 (down (reach it) Δ)).map some else none
  | .raise _, _ => some none
noncomputable def tySs : List CS → List Own → Option Fall
  | [], Δ => some (some Δ)
  | s :: r, Δ => (tyS s Δ).bind fun f => match f with
    | none => some none
    | some Δ' => tySs r Δ'
end

end Mine

namespace Mine
open PySem
variable {w : World}

theorem Keeps.refl' (s : Shared) : Keeps s s := ⟨s.heap, s.toks, rfl, fun _ _ e => e⟩
theorem Keeps.trans' {a b c : Shared} (x : Keeps a b) (y : Keeps b c) : Keeps a c := by
  obtain ⟨h, t, rfl, k⟩ := x
  obtain ⟨h', t', rfl, k'⟩ := y
  exact ⟨h', t', rfl, fun b o e => k' b o (k b o e)⟩
theorem Keeps.grow {a b : Shared} (x : Keeps a b) : Grow a.heap b.heap := by
  obtain ⟨h, t, rfl, k⟩ := x
  exact k
theorem Keeps.tok (s : Shared) (n : Nat) : Keeps s { s with toks := n } := ⟨s.heap, n, rfl, fun _ _ e => e⟩

/-- room around a call at level n -/
structure AOk (n : Nat) (A : Around) : Prop where
  handled : A.handled = none
  depth : A.depth + n < 900
  units : A.units + 10 * n + 100 < cLine

inductive SeqItems (n : Nat) (Pl : Addr → Array Value → Prop) (R : List Value → Prop) (v : Value) : Prop
  | mk (a : Addr) (vs : Array Value) (e : v = .ref a) (hz : n ≤ LIM) (hl : Pl a vs) (rl : R vs.toList) : SeqItems n Pl R v
inductive DictItems (n : Nat) (Pl : Addr → Array DictEntry → Prop) (Rk Rv : List Value → Prop) (v : Value) : Prop
  | mk (a : Addr) (es : Array DictEntry) (e : v = .ref a) (hz : n ≤ LIM) (hl : Pl a es) (r1 : Rk (es.toList.map (·.key))) (r2 : Rv (es.toList.map (·.val))) : DictItems n Pl Rk Rv v
/-- what may be seen of a container's items -/
noncomputable def Items (w : World) (h : Heap) (X : Addr → Prop) : D → Value → Prop
  | .list ds, v => SeqItems ds.length h.PlainList (RepL w h X ds) v
  | d, v => Rep w h X d v
theorem PTup.grow {h h' : Heap} {a : Addr} {vs : Array Value} (g : Grow h h') (x : PTup h a vs) : PTup h' a vs := let ⟨n, e⟩ := x; ⟨n, g _ _ e⟩
theorem plain_grow {h h' : Heap} {a : Addr} {vs : Array Value} (g : Grow h h') (x : h.PlainList a vs) : h'.PlainList a vs := let ⟨n, e⟩ := x; ⟨n, g _ _ e⟩
theorem Rep.items {h : Heap} {X : Addr → Prop} {d : D} {v : Value} (r : Rep w h X d v) : Items w h X d v := by
  cases d with
  | list ds => rw [Rep] at r; obtain ⟨a, vs, e, _, hz, hl, rl⟩ := r; exact ⟨a, vs, e, hz, hl, rl⟩
  | _ => exact r
theorem Items.grow {h h' : Heap} {X : Addr → Prop} {d : D} {v : Value} (g : Grow h h') (r : Items w h X d v) : Items w h' X d v := by
  cases d with
  | list ds => obtain ⟨a, vs, e, hz, hl, rl⟩ := r; exact ⟨a, vs, e, hz, plain_grow g hl, rl.grow g⟩
  | none => exact Rep.grow (w := w) (X := X) (d := .none) g r
  | bool b => exact Rep.grow (w := w) (X := X) (d := .bool b) g r
  | int b => exact Rep.grow (w := w) (X := X) (d := .int b) g r
  | str b => exact Rep.grow (w := w) (X := X) (d := .str b) g r
  | tuple b => exact Rep.grow (w := w) (X := X) (d := .tuple b) g r
theorem Items.less {h : Heap} {X X' : Addr → Prop} {d : D} {v : Value} (r : Items w h X d v) (hX : ∀ b, X' b → X b) : Items w h X' d v := by
  cases d with
  | list ds => obtain ⟨a, vs, e, hz, hl, rl⟩ := r; exact ⟨a, vs, e, hz, hl, rl.less hX⟩
  | none => exact Rep.less (w := w) (h := h) (X := X) (d := .none) r hX
  | bool b => exact Rep.less (w := w) (h := h) (X := X) (d := .bool b) r hX
  | int b => exact Rep.less (w := w) (h := h) (X := X) (d := .int b) r hX
  | str b => exact Rep.less (w := w) (h := h) (X := X) (d := .str b) r hX
  | tuple b => exact Rep.less (w := w) (h := h) (X := X) (d := .tuple b) r hX

inductive NewList (w : World) (h h' : Heap) (X : Addr → Prop) (ds : List D) (v : Value) : Prop
  | mk (a : Addr) (vs : Array Value) (e : v = .ref a) (hn : h.get? a = none) (hz : ds.length ≤ LIM) (hl : h'.PlainList a vs) (r : RepL w h' (fun b => X b ∨ b = a) ds vs.toList) : NewList w h h' X ds v
inductive NewDict (w : World) (h h' : Heap) (X : Addr → Prop) (ks ds : List D) (v : Value) : Prop
  | mk (a : Addr) (es : Array DictEntry) (e : v = .ref a) (hn : h.get? a = none) (hz : ks.length ≤ LIM) (hl : PDict w h' a es) (r1 : RepL w h' (fun b => X b ∨ b = a) ks (es.toList.map (·.key)))
    (r2 : RepL w h' (fun b => X b ∨ b = a) ds (es.toList.map (·.val))) : NewDict w h h' X ks ds v
/-- a value whose top, if it is a list or a dict, is new -/
noncomputable def New1 (w : World) (h h' : Heap) (X : Addr → Prop) : D → Value → Prop
  | .list ds, v => NewList w h h' X ds v
  | d, v => Rep w h' X d v

theorem New1.older {h₀ h h' : Heap} {X : Addr → Prop} {d : D} {v : Value} (g : Grow h₀ h) (r : New1 w h h' X d v) : New1 w h₀ h' X d v := by
  cases d with
  | list ds => obtain ⟨a, vs, e, hn, hz, hl, r⟩ := r; exact ⟨a, vs, e, none_of_grow g hn, hz, hl, r⟩
  | _ => exact r

theorem New1.rep {h h' : Heap} {X : Addr → Prop} {d : D} {v : Value} (r : New1 w h h' X d v) (hX : ∀ a, X a → Alloc h a) : Rep w h' X d v := by
  cases d with
  | list ds =>
    obtain ⟨a, vs, e, hn, hz, hl, rl⟩ := r
    rw [Rep]
    exact ⟨a, vs, e, fun q => not_alloc hn (hX a q), hz, hl, rl.less fun b q => .inl q⟩
  | _ => exact r
/-- a new list of items that were there before -/
theorem New1.list {h h' : Heap} {X : Addr → Prop} {a : Addr} {vs : Array Value} {ds : List D} (g : Grow h h') (hn : h.get? a = none) (hz : ds.length ≤ LIM) (hl : h'.PlainList a vs) (r : RepL w h X ds vs.toList) : New1 w h h' X (.list ds) (.ref a) :=
  ⟨a, vs, rfl, hn, hz, hl, r.mono (g.but X) fun b o ho q => q.elim id fun e => by rw [e, hn] at ho; cases ho⟩
theorem none_at {h : Heap} : h.get? h.objs.size = none := by
  cases e : h.get? h.objs.size with
  | none => rfl
  | some o => exact absurd (Heap.lt_size e) (Nat.lt_irrefl _)
theorem push_grow (h : Heap) (o : Obj) : Grow h (h.push o) := fun _ _ e => Heap.get?_push_of_some _ e

theorem Rep.mkTuple {h h' : Heap} {X : Addr → Prop} {a : Addr} {vs : Array Value} {ds : List D} (g : Grow h h') (hX : ¬ X a) (hz : ds.length ≤ LIM) (hl : PTup h' a vs) (r : RepL w h X ds vs.toList) : Rep w h' X (.tuple ds) (.ref a) := by
  rw [Rep]; exact ⟨a, vs, rfl, hX, hz, hl, r.grow g⟩

section
variable {prog : Program} {A : Around} {E : Value → Shared → Prop} {s : Shared} {X : Addr → Prop}

theorem SS_append (s t : List Nat) : (SS s ++ SS t) = SS (s ++ t) := by
  show Str.mk (s.toArray ++ t.toArray) = _
  simp
theorem SS_length (s : List Nat) : (SS s).length = s.length := by show s.toArray.size = _; simp
theorem okLen_iff {n : Nat} : okLen n = true ↔ n ≤ LIM := by simp [okLen]
theorem lim_line : LIM = sizeLine := by decide

/-- the post of an operation that yields d -/
noncomputable def OpPost (w : World) (s : Shared) (X : Addr → Prop) (d : D) (v : Value) (s' : Shared) : Prop := Keeps s s' ∧ New1 w s.heap s'.heap X d v

theorem OpPost.int {i : Int} {t n : Nat} : OpPost w s X (.int i) (.int i t) { s with toks := n } := ⟨Keeps.tok _ _, by show Rep _ _ _ _ _; rw [Rep]; exact ⟨_, rfl⟩⟩
theorem RepL.rep {h : Heap} {ds : List D} {vs : List Value} (r : RepL w h X ds vs) : ∀ k : Nat, RepL w h X (List.replicate k ds).flatten (List.replicate k vs).flatten
  | 0 => by simpa using RepL.nil
  | k + 1 => by simpa [List.replicate_succ] using r.append (r.rep k)

theorem binop_sound {op : BOp} {x y d : D} {vx vy : Value} (e : binop op x y = some d) (rx : Items w s.heap X x vx) (ry : Items w s.heap X y vy) (hX : ∀ a, X a → Alloc s.heap a) :
    wpAny (model prog w) A (binaryOp (opOf op) vx vy) (OpPost w s X d) E s := by
  unfold binop at e
  split at e
  · cases e
    obtain ⟨t, rfl⟩ : ∃ t, vx = .int _ t := by simpa [Items, Rep] using rx
    obtain ⟨u, rfl⟩ : ∃ t, vy = .int _ t := by simpa [Items, Rep] using ry
    exact PyProof.Rows.add_int OpPost.int
  · rename_i x y
    split at e
    · cases e
      rename_i hk
      obtain ⟨_, h1, t, rfl⟩ : StrRep x vx := by simpa only [Items, Rep] using rx
      obtain ⟨_, h2, u, rfl⟩ : StrRep y vy := by simpa only [Items, Rep] using ry
      rw [okLen_iff] at hk
      refine PySem.SB.add (fun t' k => ⟨Keeps.tok _ _, ?_⟩) (by rw [SS_length, SS_length]; exact hk)
      show Rep _ _ _ _ _
      rw [Rep, SS_append]
      exact ⟨by simpa using hk, fun c hc => (List.mem_append.mp hc).elim (h1 c) (h2 c), _, rfl⟩
    · cases e
  · rename_i x y
    split at e
    · cases e
      rename_i hk
      rw [okLen_iff] at hk
      obtain ⟨a, vs, rfl, _, ⟨n, ha⟩, ra⟩ := rx
      obtain ⟨b, ws, rfl, _, ⟨m, hb⟩, rb⟩ := ry
      have l1 := ra.length
      have l2 := rb.length
      rw [Array.length_toList] at l1 l2
      refine concat_meets ⟨_, ha, rfl⟩ ⟨_, hb, rfl⟩ noFill_list_add seq_list_add PySem.F.slot_list_add PySem.F.entry_list_add (PySem.F.args_list_add_2 _ _) (PyProof.Rows.list_addW a b vs ws n m _ _ _ _ (by rw [← lim_line]; omega)) ⟨ha, hb, ?_⟩
      exact ⟨⟨_, _, rfl, push_grow _ _⟩, New1.list (push_grow _ _) none_at (by simpa using hk) ⟨_, Heap.get?_push_size _ rfl⟩ (by simpa using ra.append rb)⟩
    · cases e
  · rename_i x y
    split at e
    · cases e
      rename_i hk
      rw [okLen_iff] at hk
      have rx' : Rep w s.heap X (.tuple x) vx := rx
      have ry' : Rep w s.heap X (.tuple y) vy := ry
      rw [Rep] at rx' ry'
      obtain ⟨a, vs, rfl, hxa, _, ⟨n, ha⟩, ra⟩ := rx'
      obtain ⟨b, ws, rfl, hxb, _, ⟨m, hb⟩, rb⟩ := ry'
      have l1 := ra.length
      have l2 := rb.length
      rw [Array.length_toList] at l1 l2
      by_cases h1 : vs.isEmpty = true
      · refine concat_meets ⟨_, ha, rfl⟩ ⟨_, hb, rfl⟩ noFill_tuple_add seq_tuple_add PySem.F.slot_tuple_add PySem.F.entry_tuple_add (PySem.F.args_tuple_add_2 _ _) (PyProof.Rows.tuple_addW0 a b vs ws n m _ _ _ _ h1) ⟨ha, hb, ?_⟩
        refine ⟨Keeps.refl' _, ?_⟩
        have : x = [] := by
          have : vs.size = 0 := by simpa [Array.isEmpty] using h1
          exact List.length_eq_zero_iff.mp (by omega)
        subst this
        exact ry
      · by_cases h2 : ws.isEmpty = true
        · refine concat_meets ⟨_, ha, rfl⟩ ⟨_, hb, rfl⟩ noFill_tuple_add seq_tuple_add PySem.F.slot_tuple_add PySem.F.entry_tuple_add (PySem.F.args_tuple_add_2 _ _) (PyProof.Rows.tuple_addW1 a b vs ws n m _ _ _ _ h1 h2) ⟨ha, hb, ?_⟩
          refine ⟨Keeps.refl' _, ?_⟩
          have : y = [] := by
            have : ws.size = 0 := by simpa [Array.isEmpty] using h2
            exact List.length_eq_zero_iff.mp (by omega)
          subst this
          rw [List.append_nil]
          exact rx
        · refine concat_meets ⟨_, ha, rfl⟩ ⟨_, hb, rfl⟩ noFill_tuple_add seq_tuple_add PySem.F.slot_tuple_add PySem.F.entry_tuple_add (PySem.F.args_tuple_add_2 _ _) (PyProof.Rows.tuple_addW2 a b vs ws n m _ _ _ _ h1 h2 (by rw [← lim_line]; omega)) ⟨ha, hb, ?_⟩
          exact ⟨⟨_, _, rfl, push_grow _ _⟩, Rep.mkTuple (h := s.heap) (push_grow _ _) (fun q => not_alloc none_at (hX _ q)) (by simpa using hk) ⟨_, Heap.get?_push_size _ rfl⟩ (by simpa using ra.append rb)⟩
    · cases e
  · cases e
    obtain ⟨t, rfl⟩ : ∃ t, vx = .int _ t := by simpa [Items, Rep] using rx
    obtain ⟨u, rfl⟩ : ∃ t, vy = .int _ t := by simpa [Items, Rep] using ry
    exact PyProof.Rows.sub_int OpPost.int
  · split at e
    · cases e
      rename_i i j hk
      obtain ⟨t, rfl⟩ : ∃ t, vx = .int _ t := by simpa [Items, Rep] using rx
      obtain ⟨u, rfl⟩ : ∃ t, vy = .int _ t := by simpa [Items, Rep] using ry
      refine PyProof.Rows.mul_int OpPost.int ?_
      rcases Bool.or_eq_true_iff.mp hk with q | q
      · exact IntMulOk.of_left (intBits_le_64 (by simp [smallI] at q; omega) (by simp [smallI] at q; omega))
      · exact IntMulOk.of_right (intBits_le_64 (by simp [smallI] at q; omega) (by simp [smallI] at q; omega))
    · cases e
  · rename_i x n
    split at e
    · cases e
      rename_i hk
      simp only [Bool.and_eq_true, okLen_iff] at hk
      obtain ⟨a, vs, rfl, _, ⟨k, ha⟩, ra⟩ := rx
      obtain ⟨u, rfl⟩ : ∃ t, vy = .int _ t := by simpa [Items, Rep] using ry
      have l1 := ra.length
      rw [Array.length_toList] at l1
      have hL : LIM = 16777216 := rfl
      have hsz : vs.size * n.toNat ≤ 2 ^ 24 := by rw [l1]; exact hk.1
      refine wpAny_binaryOp_repeat_ref (T := "list") (U := "int") (by decide) ⟨_, ha, rfl⟩ (fun s' => typeIs_int s' n u) noFill_list_mul F.fills_int_mul F.slot_int_rmul repeat_list F.slot_int_index.lookup
        (call_meets F.slot_int_rmul (typeIs_int s n u) F.entry_int_rmul (F.args_int_rmul_2 _ _) (int___rmul___int_list n u a vs k)
          ⟨ha, rfl, ⟨_, ha, rfl⟩, call_meets F.slot_list_mul ⟨_, ha, rfl⟩ F.entry_list_mul (F.args_list_mul_2 _ _)
            (AutoListH.list___mul___list_int_3 a vs k n u (by simp [Builtin.List.listFitsIndex]; omega) (by omega) (by simp [Builtin.List.listTooLong, sizeLine]; omega))
            ⟨ha, ?_⟩⟩)
      refine ⟨⟨_, _, rfl, push_grow _ _⟩, New1.list (push_grow _ _) none_at ?_ ⟨_, Heap.get?_push_size _ rfl⟩ ?_⟩
      · have : (rep n x).length = n.toNat * x.length := by simp [rep]
        rw [this, Nat.mul_comm]; exact hk.1
      · rw [PyProof.Rows.listMul_foldl]
        by_cases he : vs.isEmpty = true
        · have h0 : x = [] := by
            have : vs.size = 0 := by simpa [Array.isEmpty] using he
            exact List.length_eq_zero_iff.mp (by omega)
          subst h0
          rw [if_pos he]
          simpa [rep] using (RepL.nil (w := w) (h := s.heap) (X := X))
        · rw [if_neg he]
          simpa [rep] using ra.rep n.toNat
    · cases e
  · split at e
    · cases e
    · cases e
      rename_i i j hk
      obtain ⟨t, rfl⟩ : ∃ t, vx = .int _ t := by simpa [Items, Rep] using rx
      obtain ⟨u, rfl⟩ : ∃ t, vy = .int _ t := by simpa [Items, Rep] using ry
      simp only [Bool.or_eq_true, decide_eq_true_eq, Bool.not_eq_true', not_or, Bool.not_eq_false, smallI] at hk
      exact PyProof.Rows.floordiv_int hk.1 OpPost.int (.inl (PyProof.noPylong_small hk.2))
  · split at e
    · cases e
    · cases e
      rename_i i j hk
      obtain ⟨t, rfl⟩ : ∃ t, vx = .int _ t := by simpa [Items, Rep] using rx
      obtain ⟨u, rfl⟩ : ∃ t, vy = .int _ t := by simpa [Items, Rep] using ry
      exact PyProof.Rows.mod_int hk OpPost.int
  · cases e
end
end Mine

namespace Mine
open PySem
variable {w : World}

section
variable {prog : Program} {A : Around} {E : Value → Shared → Prop} {s : Shared} {X X' : Addr → Prop}

noncomputable def BoolPost (s : Shared) (b : Bool) (v : Value) (s' : Shared) : Prop := v = .bool b ∧ Keeps s s'

theorem cmp_sound {op : COp} {x y : D} {b : Bool} {vx vy : Value} (hu : A.units + 20 < cLine) (e : cmpop op x y = some b) (rx : Rep w s.heap X x vx) (ry : Rep w s.heap X' y vy) :
    wpAny (model prog w) A (compareOp (cmpOf op) vx vy) (BoolPost s b) E s := by
  unfold cmpop at e
  split at e
  · split at e
    · cases e
      rename_i hk
      simp only [Bool.and_eq_true] at hk
      obtain ⟨⟨as, q1⟩, c1, d1⟩ := reads_of 8 _ hk.1 rx
      obtain ⟨⟨bs, q2⟩, c2, d2⟩ := reads_of 8 _ hk.2 ry
      refine SeqAt.compareEq_reads q1 q2 c1 c2 (by omega) ⟨?_, Keeps.refl' _⟩
      rw [eqv_py 8 _ _ hk.1 hk.2]
    · cases e
  · split at e
    · cases e
      rename_i hk
      simp only [Bool.and_eq_true] at hk
      obtain ⟨⟨as, q1⟩, c1, d1⟩ := reads_of 8 _ hk.1 rx
      obtain ⟨⟨bs, q2⟩, c2, d2⟩ := reads_of 8 _ hk.2 ry
      refine SeqAt.compareNe_reads q1 q2 c1 c2 (by omega) ⟨?_, Keeps.refl' _⟩
      rw [eqv_py 8 _ _ hk.1 hk.2]
    · cases e
  · cases e
    rw [Rep] at rx ry
    obtain ⟨t, rfl⟩ := rx
    obtain ⟨u, rfl⟩ := ry
    exact PyProof.Rows.lt_int ⟨rfl, Keeps.refl' _⟩
  · cases e
    rw [Rep] at rx ry
    obtain ⟨t, rfl⟩ := rx
    obtain ⟨u, rfl⟩ := ry
    exact PyProof.Rows.le_int ⟨rfl, Keeps.refl' _⟩
  · cases e
    rw [Rep] at rx ry
    obtain ⟨t, rfl⟩ := rx
    obtain ⟨u, rfl⟩ := ry
    exact PyProof.Rows.gt_int ⟨rfl, Keeps.refl' _⟩
  · cases e

noncomputable def tyStr : Ty → String
  | .str => "str"
  | .list => "list"
  | .tuple => "tuple"
  | .int => "int"
  | .bool => "bool"
theorem isinst_sound {x : D} {t : Ty} {v : Value} (rx : Rep w s.heap X x v) :
    wpAny (model prog w) A (call (.builtin "isinstance") [v, .type (tyStr t)]) (BoolPost s (hasTy t x)) E s := by
  cases x <;> rw [Rep] at rx
  · subst rx
    cases t
    · exact IsiPair.NoneType_str ⟨rfl, Keeps.tok _ _⟩
    · exact IsiPair.NoneType_list ⟨rfl, Keeps.tok _ _⟩
    · exact IsiPair.NoneType_tuple ⟨rfl, Keeps.tok _ _⟩
    · exact IsiPair.NoneType_int ⟨rfl, Keeps.tok _ _⟩
    · exact IsiPair.NoneType_bool ⟨rfl, Keeps.tok _ _⟩
  · subst rx
    cases t
    · exact IsiPair.bool_str ⟨rfl, Keeps.tok _ _⟩
    · exact IsiPair.bool_list ⟨rfl, Keeps.tok _ _⟩
    · exact IsiPair.bool_tuple ⟨rfl, Keeps.tok _ _⟩
    · exact IsiPair.bool_int ⟨rfl, Keeps.refl' _⟩
    · exact IsiPair.bool_bool ⟨rfl, Keeps.refl' _⟩
  · obtain ⟨u, rfl⟩ := rx
    cases t
    · exact IsiPair.int_str ⟨rfl, Keeps.tok _ _⟩
    · exact IsiPair.int_list ⟨rfl, Keeps.tok _ _⟩
    · exact IsiPair.int_tuple ⟨rfl, Keeps.tok _ _⟩
    · exact IsiPair.int_int ⟨rfl, Keeps.refl' _⟩
    · exact IsiPair.int_bool ⟨rfl, Keeps.tok _ _⟩
  · obtain ⟨_, _, u, rfl⟩ := rx
    cases t
    · exact IsiPair.str_str ⟨rfl, Keeps.refl' _⟩
    · exact IsiPair.str_list ⟨rfl, Keeps.tok _ _⟩
    · exact IsiPair.str_tuple ⟨rfl, Keeps.tok _ _⟩
    · exact IsiPair.str_int ⟨rfl, Keeps.tok _ _⟩
    · exact IsiPair.str_bool ⟨rfl, Keeps.tok _ _⟩
  · obtain ⟨a, vs, rfl, _, _, ⟨n, ho⟩, _⟩ := rx
    cases t
    · exact IsiPair.list_str ho rfl ⟨rfl, Keeps.tok _ _⟩
    · exact IsiPair.list_list ho rfl ⟨rfl, Keeps.refl' _⟩
    · exact IsiPair.list_tuple ho rfl ⟨rfl, Keeps.tok _ _⟩
    · exact IsiPair.list_int ho rfl ⟨rfl, Keeps.tok _ _⟩
    · exact IsiPair.list_bool ho rfl ⟨rfl, Keeps.tok _ _⟩
  · obtain ⟨a, vs, rfl, _, _, ⟨n, ho⟩, _⟩ := rx
    cases t
    · exact IsiPair.tuple_str ho rfl ⟨rfl, Keeps.tok _ _⟩
    · exact IsiPair.tuple_list ho rfl ⟨rfl, Keeps.tok _ _⟩
    · exact IsiPair.tuple_tuple ho rfl ⟨rfl, Keeps.refl' _⟩
    · exact IsiPair.tuple_int ho rfl ⟨rfl, Keeps.tok _ _⟩
    · exact IsiPair.tuple_bool ho rfl ⟨rfl, Keeps.tok _ _⟩

/-! items -/
theorem idx_seqIndex {i : Int} {n k : Nat} (h : idx i n = some k) : seqIndex? i n = some k ∧ k < n := by
  unfold idx at h
  split at h
  · split at h
    · cases h
      refine ⟨?_, by omega⟩
      simp only [seqIndex?, show ¬ i < 0 by omega, if_false]
      rw [if_pos (by simp; omega)]
    · cases h
  · split at h
    · cases h
      refine ⟨?_, by omega⟩
      simp only [seqIndex?, show i < 0 by omega, if_true]
      rw [if_pos (by simp; omega)]
    · cases h

theorem All2.get {α β : Type} {P : α → β → Prop} : ∀ {as : List α} {bs : List β} {k : Nat} {a : α}, All2 P as bs → as[k]? = some a → ∃ b, bs[k]? = some b ∧ P a b
  | [], _, _, _, _, e => by simp at e
  | x :: as, bs, k, a, ⟨v, vs', e', p, r⟩, e => by
    subst e'
    cases k with
    | zero => simp at e; subst e; exact ⟨v, rfl, p⟩
    | succ k => simp at e; simpa using r.get e

/-- a container whose items are related so -/
noncomputable def ItemsP (w : World) (h : Heap) (P : D → Value → Prop) : D → Value → Prop
  | .list ds, v => ∃ a vs, v = .ref a ∧ ds.length ≤ LIM ∧ h.PlainList a vs ∧ All2 P ds vs.toList
  | .tuple ds, v => ∃ a vs, v = .ref a ∧ ds.length ≤ LIM ∧ PTup h a vs ∧ All2 P ds vs.toList
  | .str t, v => Rep w h (fun _ => False) (.str t) v ∧ ∀ c ∈ t, ∀ u, P (.str [c]) (.str (SS [c]) u)
  | _, _ => False

/-- an item of a container, by its number or key -/
theorem index_sound {x i d : D} {vx vi : Value} {P : D → Value → Prop} (e : indexOp x i = some d) (rx : ItemsP w s.heap P x vx) (ri : Rep w s.heap X' i vi) :
    wpAny (model prog w) A (getItem vx vi) (fun v s' => (∃ tk, s' = { s with toks := tk }) ∧ P d v) E s := by
  unfold indexOp at e
  split at e
  · rename_i xs i
    obtain ⟨k, hk, hx⟩ := bindI e
    obtain ⟨a, vs, rfl, hz, hl, rl⟩ := rx
    rw [Rep] at ri
    obtain ⟨t, rfl⟩ := ri
    obtain ⟨v, hv, r⟩ := rl.get hx
    rw [Array.getElem?_toList] at hv
    have hlen := rl.length
    rw [Array.length_toList] at hlen
    have hb := (idx_seqIndex hk).2
    have hL : LIM = 16777216 := rfl
    unfold idx at hk
    split at hk
    · split at hk
      · cases hk
        exact wpAny_getItem_list hl.isList (by omega) (by omega) hv ⟨⟨_, rfl⟩, r⟩
      · cases hk
    · split at hk
      · cases hk
        exact wpAny_getItem_list_neg hl.isList (by omega) (by omega) (by omega) (by rw [hlen]; exact hv) ⟨⟨_, rfl⟩, r⟩
      · cases hk
  · rename_i xs i
    obtain ⟨k, hk, hx⟩ := bindI e
    obtain ⟨a, vs, rfl, hz, hl, rl⟩ := rx
    rw [Rep] at ri
    obtain ⟨t, rfl⟩ := ri
    obtain ⟨v, hv, r⟩ := rl.get hx
    rw [Array.getElem?_toList] at hv
    have hlen := rl.length
    rw [Array.length_toList] at hlen
    have hb := idx_seqIndex hk
    have hL : LIM = 16777216 := rfl
    have hi : -(2 ^ 63) ≤ i ∧ i < 2 ^ 63 := by
      unfold idx at hk
      split at hk
      · split at hk
        · cases hk; omega
        · cases hk
      · split at hk
        · cases hk; omega
        · cases hk
    exact PyProof.Rows.getItem_tuple hl.isTuple hi.1 hi.2 (by rw [hlen]; exact hb.1) hv ⟨⟨_, rfl⟩, r⟩
  · rename_i t i
    obtain ⟨k, hk, hx⟩ := bindI e
    obtain ⟨c, hc, rfl⟩ := mapI hx
    obtain ⟨rx', hp⟩ := rx
    rw [Rep] at rx'
    rw [Rep] at ri
    obtain ⟨hz, ha, u, rfl⟩ := rx'
    obtain ⟨t', rfl⟩ := ri
    have hb := idx_seqIndex hk
    have hL : LIM = 16777216 := rfl
    have hi : -(2 ^ 63) ≤ i ∧ i < 2 ^ 63 := by
      unfold idx at hk
      split at hk
      · split at hk
        · cases hk; omega
        · cases hk
      · split at hk
        · cases hk; omega
        · cases hk
    exact PyProof.Rows.getItem_str (c := c) (by simp; omega) (by rw [SS_length, hb.1]; simpa [SS] using hc) ⟨⟨_, rfl⟩, hp c (List.mem_of_getElem? hc) _⟩
  · cases e
end
end Mine

namespace Mine
open PySem

noncomputable def biTable : List (Str × Value) := [("len", .builtin "len"), ("ord", .builtin "ord"), ("all", .builtin "all"), ("tuple", .type "tuple"), ("list", .type "list"), ("int", .type "int"), ("str", .type "str"), ("bool", .type "bool"),
  ("sum", .builtin "sum"), ("min", .builtin "min"), ("max", .builtin "max"), ("sorted", .builtin "sorted"), ("reversed", .type "reversed"), ("range", .type "range"), ("isinstance", .builtin "isinstance")]

noncomputable def isBT : Value → Bool
  | .builtin _ => true
  | .type _ => true
  | _ => false
theorem bi_kind {x : Str} {fv : Value} (h : (x, fv) ∈ biTable) : (∃ id, fv = .builtin id) ∨ ∃ t, fv = .type t := by
  have : ∀ p ∈ biTable, isBT p.2 = true := by
    intro p hp
    have : biTable.all (fun p => isBT p.2) = true := rfl
    exact List.all_eq_true.mp this p hp
  have := this _ h
  cases fv <;> first | exact .inl ⟨_, rfl⟩ | exact .inr ⟨_, rfl⟩ | cases this
structure Glo (w : World) (h₀ : Heap) (mg mb : Str → Option Value) (gl : List Str) (G : List D) : Prop where
  g : h₀.Ns mainGlobals mg
  b : h₀.Ns builtinsNs mb
  nolimit : h₀.NoLimit
  bi : ∀ p ∈ biTable, mg p.1 = none ∧ mb p.1 = some p.2
  gv : ∀ (i : Nat) (x : Str) (d : D), gl[i]? = some x → G[i]? = some d → ∃ v, mg x = some v ∧ Rep w h₀ (fun _ => False) d v

noncomputable def KSpec (prog : Program) (w : World) (h₀ : Heap) (mg : Str → Option Value) (fn : List Str) (lv : Nat) (K : Oracle) : Prop :=
  ∀ (f : Nat) (args : List D) (r : D) (x : Str), fn[f]? = some x → K f args = some r → ∃ fa o fd, mg x = some (.ref fa) ∧ h₀.get? fa = some o ∧ o.data = .func fd ∧
    ∀ (A : Around) (s : Shared) (vs : List Value) (X : Addr → Prop) (E : Value → Shared → Prop), AOk lv A → Grow h₀ s.heap → (∀ a, X a → Alloc s.heap a ∧ h₀.get? a = none) → RepL w s.heap X args vs →
      wpAny (model prog w) A (call (.ref fa) vs) (fun v s' => Keeps s s' ∧ Rep w s'.heap X r v) E s

structure EnvOk (env : Env) (c : Ctx) : Prop where
  globals : env.globals = mainGlobals
  builtins : env.builtins = builtinsNs
  scope : env.scope = c.sc

inductive FreshP (w : World) (X₀ : Addr → Prop) (env : Env) (own : Owned) (ce : CE) (d : D) (h : Heap) (v : Value) (h' : Heap) : Prop
  | mk (new : List (Addr × Nat)) (nd : (new.map (·.1)).Nodup) (hn : ∀ p ∈ new, h.get? p.1 = none ∧ Alloc h' p.1)
    (r : OwnR w h' (fun b => XR X₀ env own (reach ce) b ∨ ∃ l, (b, l) ∈ new) (fun b l => (b, l) ∈ new) (fr ce) 0 d v) : FreshP w X₀ env own ce d h v h'
structure EvalPost (w : World) (X₀ : Addr → Prop) (env : Env) (own : Owned) (Δ : List Own) (ce : CE) (d : D) (s : Shared) (v : Value) (s' : Shared) : Prop where
  keeps : Keeps s s'
  fresh : FreshP w X₀ env own ce d s.heap v s'.heap
  path : ∀ x l, root ce = some (x, l) → ∃ m, OwnR w s'.heap (XR X₀ env own []) (fun a j => (a, x, j) ∈ own) m l d v

section
variable {w : World} {base : Heap} {X₀ : Addr → Prop} {env : Env} {nm : List (Option Str)} {Δ : List Own} {own : Owned} {V : Str → Option Value} {ds : List D} {s s' : Shared} {ce : CE} {d : D} {v : Value}

theorem path_rep {h : Heap} (S : St w base X₀ env nm Δ own V ds h) {x l n : Nat} (r : OwnR w h (XR X₀ env own []) (fun a j => (a, x, j) ∈ own) n l d v) : Rep w h (XR X₀ env own [(x, l)]) d v := by
  refine OwnR.drop (N' := fun _ _ => False) (XR.anti (R := []) fun _ q => nomatch q) n l 0 d v (Nat.zero_le _) (fun _ _ _ _ q => absurd q (by omega)) (fun a j hm hj => ?_) r
  rintro (q | q | ⟨i', l', hm', hc⟩)
  · exact (S.onew _ hm).2.2.2 q
  · exact (S.onew _ hm).2.2.1 q
  · have : (a, x, j) = (a, i', l') := nodup_inj S.nodup hm hm' rfl
    cases this
    exact hc ⟨l, by omega, List.mem_singleton.mpr rfl⟩

theorem EvalPost.rep (S : St w base X₀ env nm Δ own V ds s.heap) (p : EvalPost w X₀ env own Δ ce d s v s') : Rep w s'.heap (XR X₀ env own (reach ce)) d v := by
  obtain ⟨new, nd, hn, r⟩ := p.fresh
  refine OwnR.drop (N' := fun _ _ => False) (fun b q => .inl q) (fr ce) 0 0 d v (Nat.zero_le _) (fun _ _ _ _ q => absurd q (by omega)) (fun a j hm _ q => ?_) r
  exact not_alloc (hn _ hm).1 (S.xr_al a q)


/-- the items of what an expression gives -/
theorem EvalPost.items (S : St w base X₀ env nm Δ own V ds s.heap) (p : EvalPost w X₀ env own Δ ce d s v s') : Items w s'.heap (XR X₀ env own (elems ce)) d v := by
  unfold elems
  cases e : root ce with
  | none => exact (p.rep S).items
  | some q =>
    obtain ⟨x, l⟩ := q
    obtain ⟨m, r⟩ := p.path x l e
    have S' := S.grow (Keeps.grow p.keeps)
    have an : ∀ b, XR X₀ env own [(x, l + 1)] b → XR X₀ env own [] b := XR.anti fun _ q => nomatch q
    cases m with
    | zero => exact (Rep.less r an).items
    | succ m =>
      cases d with
      | list ds' =>
        obtain ⟨a, vs, rfl, _, hz, hl, r⟩ := r
        exact ⟨a, vs, rfl, hz, hl, repL_all2.mpr (r.imp fun d v r => path_rep S' r)⟩
      | none => exact Rep.less (w := w) (h := s'.heap) (d := .none) r an
      | bool b => exact Rep.less (w := w) (h := s'.heap) (d := .bool b) r an
      | int b => exact Rep.less (w := w) (h := s'.heap) (d := .int b) r an
      | str b => exact Rep.less (w := w) (h := s'.heap) (d := .str b) r an
      | tuple b => exact Rep.less (w := w) (h := s'.heap) (d := .tuple b) r an

theorem EvalPost.plain (k : Keeps s s') (hr : root ce = none) (hf : fr ce = 0) (r : Rep w s'.heap (XR X₀ env own (reach ce)) d v) : EvalPost w X₀ env own Δ ce d s v s' where
  keeps := k
  fresh := ⟨[], List.nodup_nil, (fun _ q => nomatch q), by rw [hf]; exact Rep.less r fun b q => q.elim id fun ⟨_, q⟩ => nomatch q⟩
  path := fun x l e => by rw [hr] at e; cases e

theorem EvalPost.new1 (k : Keeps s s') (hr : root ce = none) (hf : fr ce = 1) (r : New1 w s.heap s'.heap (XR X₀ env own (reach ce)) d v) : EvalPost w X₀ env own Δ ce d s v s' where
  keeps := k
  fresh := by
    have atom : OwnR w s'.heap (fun b => XR X₀ env own (reach ce) b ∨ ∃ l, (b, l) ∈ ([] : List (Addr × Nat))) (fun b l => (b, l) ∈ ([] : List (Addr × Nat))) 1 0 d v → FreshP w X₀ env own ce d s.heap v s'.heap :=
      fun r => ⟨[], List.nodup_nil, (fun _ q => nomatch q), by rw [hf]; exact r⟩
    have le : ∀ b, (XR X₀ env own (reach ce) b ∨ ∃ l, (b, l) ∈ ([] : List (Addr × Nat))) → XR X₀ env own (reach ce) b := fun b q => q.elim id fun ⟨_, q⟩ => nomatch q
    cases d with
    | list ds' =>
      obtain ⟨a, vs, rfl, hn, hz, hl, rl⟩ := r
      refine ⟨[(a, 0)], by simp, fun p hp => ?_, ?_⟩
      · rw [List.mem_singleton] at hp; subst hp
        obtain ⟨n, e⟩ := hl
        exact ⟨hn, _, e⟩
      · rw [hf]
        exact ⟨a, vs, rfl, List.mem_singleton.mpr rfl, hz, hl, repL_all2.mp (rl.less fun b q => q.imp id fun ⟨l, q⟩ => by rw [List.mem_singleton] at q; cases q; rfl)⟩
    | none => exact atom (Rep.less (w := w) (h := s'.heap) (d := .none) r le)
    | bool b => exact atom (Rep.less (w := w) (h := s'.heap) (d := .bool b) r le)
    | int b => exact atom (Rep.less (w := w) (h := s'.heap) (d := .int b) r le)
    | str b => exact atom (Rep.less (w := w) (h := s'.heap) (d := .str b) r le)
    | tuple b => exact atom (Rep.less (w := w) (h := s'.heap) (d := .tuple b) r le)
  path := fun x l e => by rw [hr] at e; cases e
end
end Mine

namespace Mine
open PySem

structure Sit (w : World) (h₀ : Heap) (lv : Nat) (c : Ctx) (A : Around) (env : Env) (base : Heap) (X₀ : Addr → Prop) (Δ : List Own) (own : Owned) (V : Str → Option Value) (ds : List D) (s : Shared) : Prop where
  a : AOk lv A
  e : EnvOk env c
  st : St w base X₀ env c.nm Δ own V ds s.heap
  gr : Grow h₀ base
  xn : ∀ a, X₀ a → h₀.get? a = none

section
variable {w : World} {h₀ : Heap} {lv : Nat} {c : Ctx} {A : Around} {env : Env} {base : Heap} {X₀ : Addr → Prop} {Δ : List Own} {own : Owned} {V : Str → Option Value} {ds : List D} {s s' : Shared}

theorem Sit.keeps (T : Sit w h₀ lv c A env base X₀ Δ own V ds s) (k : Keeps s s') : Sit w h₀ lv c A env base X₀ Δ own V ds s' := ⟨T.a, T.e, T.st.grow (Keeps.grow k), T.gr, T.xn⟩
theorem Sit.xok (T : Sit w h₀ lv c A env base X₀ Δ own V ds s) (R : List (Nat × Nat)) : ∀ a, XR X₀ env own R a → Alloc s.heap a ∧ h₀.get? a = none := fun a q => ⟨T.st.xr_al a q, by
  rcases q with q | q | ⟨i, l, hm, _⟩
  · exact T.xn a q
  · exact none_of_grow T.gr (T.st.fnew a q).1
  · exact none_of_grow T.gr (T.st.onew _ hm).1⟩
theorem Sit.h0 (T : Sit w h₀ lv c A env base X₀ Δ own V ds s) : Grow h₀ s.heap := T.gr.trans T.st.keep
theorem Sit.kindOf (T : Sit w h₀ lv c A env base X₀ Δ own V ds s) (x : Str) : env.kindOf x = c.sc.names.lookup x := by unfold Env.kindOf; rw [T.e.scope]
end

section
variable (prog : Program) (w : World) (h₀ : Heap) (G : List D) (K : Oracle) (lv : Nat)
noncomputable def EvalOK (c : Ctx) (e : Expr) (ce : CE) : Prop :=
  ∀ {A : Around} {E : Value → Shared → Prop} {s : Shared} {env : Env} {base : Heap} {X₀ : Addr → Prop} {Δ : List Own} {own : Owned} {V : Str → Option Value} {ds : List D} {d : D},
    Sit w h₀ lv c A env base X₀ Δ own V ds s → defd Δ ce = true → evalC G K ce ds = some d → wpAny (model prog w) A (eval e env) (EvalPost w X₀ env own Δ ce d s) E s
/-- several expressions, one behind the other -/
noncomputable def EvalsOK (c : Ctx) (es : List Expr) (ces : List CE) : Prop :=
  ∀ {A : Around} {E : Value → Shared → Prop} {s : Shared} {env : Env} {base : Heap} {X₀ : Addr → Prop} {Δ : List Own} {own : Owned} {V : Str → Option Value} {ds : List D} {dd : List D} {pos : Pos},
    Sit w h₀ lv c A env base X₀ Δ own V ds s → defds Δ ces = true → evalCs G K ces ds = some dd →
    wpAny (model prog w) A (spliced (backTo pos (starEach es env))) (fun vs s' => Keeps s s' ∧ ∃ new : List (Addr × Nat), (new.map (·.1)).Nodup ∧ (∀ p ∈ new, s.heap.get? p.1 = none ∧ Alloc s'.heap p.1) ∧
      All2 (OwnR w s'.heap (fun b => XR X₀ env own (reachs ces) b ∨ ∃ l, (b, l) ∈ new) (fun b l => (b, l) ∈ new) (frs ces) 0) dd vs) E s
noncomputable def TrueOK (c : Ctx) (e : Expr) (ce : CE) : Prop :=
  ∀ {A : Around} {E : Value → Shared → Prop} {s : Shared} {env : Env} {base : Heap} {X₀ : Addr → Prop} {Δ : List Own} {own : Owned} {V : Str → Option Value} {ds : List D} {b : Bool},
    Sit w h₀ lv c A env base X₀ Δ own V ds s → defd Δ ce = true → (evalC G K ce ds).bind asB = some b → wpAny (model prog w) A (isTrue e env (eval e env)) (fun b' s' => b' = b ∧ Keeps s s') E s
end

section
variable {prog : Program} {w : World} {h₀ : Heap} {G : List D} {K : Oracle} {lv : Nat} {c : Ctx} {mg mb : Str → Option Value}

theorem ev_const {e : Expr} {d : D} (h : chkE c e (.const d) = true) : EvalOK prog w h₀ G K lv c e (.const d) := by
  intro A E s env base X₀ Δ own V ds d' T hd he
  rw [evalC] at he; cases he
  unfold chkE at h
  split at h
  · rename_i k p1 p2
    unfold sameConst at h
    split at h
    · exact wpAny_Constant_none (.plain (Keeps.refl' _) rfl rfl (by rw [Rep]))
    · obtain rfl := eq_of_beq h
      exact wpAny_Constant_bool (.plain (Keeps.refl' _) rfl rfl (by rw [Rep]))
    · obtain rfl := eq_of_beq h
      exact wpAny_Constant_int (.plain (Keeps.tok _ _) rfl rfl (by rw [Rep]; exact ⟨_, rfl⟩))
    · rename_i x t
      simp only [Bool.and_eq_true, beq_iff_eq] at h
      have : x = SS t := by rw [← h.1.1]
      subst this
      refine wpAny_Constant_str (.plain (Keeps.tok _ _) rfl rfl ?_)
      rw [Rep]
      exact ⟨of_decide_eq_true h.1.2, fun c hc => by simpa using (List.all_eq_true.mp h.2) c hc, _, rfl⟩
    · cases h
  · cases h

theorem ev_var {e : Expr} {i : Nat} (h : chkE c e (.var i) = true) : EvalOK prog w h₀ G K lv c e (.var i) := by
  intro A E s env base X₀ Δ own V ds d T hd he
  rw [evalC] at he
  unfold chkE at h
  split at h
  · rename_i x p
    simp only [Bool.and_eq_true, beq_iff_eq, bne_iff_ne, ne_eq] at h
    rw [defd] at hd
    unfold bound at hd
    obtain ⟨n, hn⟩ := Option.isSome_iff_exists.mp hd
    obtain ⟨v, d', hv, hd', r⟩ := T.st.slots i n x h.1 hn
    rw [he] at hd'; cases hd'
    refine wpAny_Name (T.st.fm.load (T.st.vars i x h.1) hv ⟨Keeps.refl' _, ⟨[], List.nodup_nil, (fun _ q => nomatch q), ?_⟩, ?_⟩) (by simpa using h.2)
    · rw [show fr (.var i) = 0 from rfl, show reach (.var i) = [(i, 0)] by rw [reach]]
      exact Rep.less (path_rep T.st r) fun b q => q.elim id fun ⟨_, q⟩ => nomatch q
    · intro x l q
      rw [root] at q; cases q
      exact ⟨n, r⟩
  · cases h

theorem load_global {A : Around} {E : Value → Shared → Prop} {s : Shared} {env : Env} {base : Heap} {X₀ : Addr → Prop} {Δ : List Own} {own : Owned} {V : Str → Option Value} {ds : List D} {gl : List Str}
    (GL : Glo w h₀ mg mb gl G) (T : Sit w h₀ lv c A env base X₀ Δ own V ds s) {x : Str} {p : Pos} {v : Value} {Q : Value → Shared → Prop} (hx : c.glob x = true) (hv : mg x = some v) (h : Q v s) :
    wpAny (model prog w) A (eval (.Name x p) env) Q E s := by
  unfold Ctx.glob at hx
  simp only [Bool.and_eq_true, beq_iff_eq, bne_iff_ne, ne_eq] at hx
  refine Calls.Name_function_global T.st.fm.kind (by rw [T.kindOf]; exact hx.1) (Calls.loadGlobal_global (mg := mg) ?_ hv h) (by simpa using hx.2)
  rw [T.e.globals]
  obtain ⟨o, es, ep, ho, r⟩ := GL.g
  exact ⟨o, es, ep, T.h0 _ _ ho, r⟩

theorem load_builtin {A : Around} {E : Value → Shared → Prop} {s : Shared} {env : Env} {base : Heap} {X₀ : Addr → Prop} {Δ : List Own} {own : Owned} {V : Str → Option Value} {ds : List D} {gl : List Str}
    (GL : Glo w h₀ mg mb gl G) (T : Sit w h₀ lv c A env base X₀ Δ own V ds s) {x : Str} {p : Pos} {v : Value} {Q : Value → Shared → Prop} (hx : c.glob x = true) (hv : (x, v) ∈ biTable) (h : Q v s) :
    wpAny (model prog w) A (eval (.Name x p) env) Q E s := by
  unfold Ctx.glob at hx
  simp only [Bool.and_eq_true, beq_iff_eq, bne_iff_ne, ne_eq] at hx
  obtain ⟨h1, h2⟩ := GL.bi _ hv
  refine Calls.Name_function_global T.st.fm.kind (by rw [T.kindOf]; exact hx.1) (Calls.loadGlobal_builtin (mg := mg) (mb := mb) ?_ h1 ?_ h2 h) (by simpa using hx.2)
  · rw [T.e.globals]
    obtain ⟨o, es, ep, ho, r⟩ := GL.g
    exact ⟨o, es, ep, T.h0 _ _ ho, r⟩
  · rw [T.e.builtins]
    obtain ⟨o, es, ep, ho, r⟩ := GL.b
    exact ⟨o, es, ep, T.h0 _ _ ho, r⟩

theorem ev_glob {e : Expr} {i : Nat} (GL : Glo w h₀ mg mb c.gl G) (h : chkE c e (.glob i) = true) : EvalOK prog w h₀ G K lv c e (.glob i) := by
  intro A E s env base X₀ Δ own V ds d T hd he
  rw [evalC] at he
  unfold chkE at h
  split at h
  · rename_i x p
    simp only [Bool.and_eq_true, beq_iff_eq] at h
    obtain ⟨v, hv, r⟩ := GL.gv i x d h.1 he
    refine load_global GL T h.2 hv (.plain (Keeps.refl' _) rfl rfl (Rep.mono (fun b o _ e => T.h0 b o e) (fun b o ho q => ?_) r))
    have := (T.xok _ b q).2
    rw [this] at ho; cases ho
  · cases h

theorem ev_bin {e : Expr} {op : BOp} {a b : CE} (ha : ∀ x, chkE c x a = true → EvalOK prog w h₀ G K lv c x a) (hb : ∀ x, chkE c x b = true → EvalOK prog w h₀ G K lv c x b) (h : chkE c e (.bin op a b) = true) :
    EvalOK prog w h₀ G K lv c e (.bin op a b) := by
  intro A E s env base X₀ Δ own V ds d T hd he
  rw [evalC] at he
  rw [defd] at hd
  simp only [Bool.and_eq_true] at hd
  unfold chkE at h
  split at h
  · rename_i x o y p
    simp only [Bool.and_eq_true, beq_iff_eq] at h
    obtain ⟨⟨rfl, h1⟩, h2⟩ := h
    obtain ⟨dx, hx, he⟩ := bindI he
    obtain ⟨dy, hy, he⟩ := bindI he
    refine wpAny_BinOp (wpAny_mono (ha x h1 T hd.1 hx) (fun vx s₁ p₁ => ?_) fun _ _ q => q)
    have T₁ := T.keeps p₁.keeps
    refine wpAny_mono (hb y h2 T₁ hd.2 hy) (fun vy s₂ p₂ => ?_) fun _ _ q => q
    have k : Keeps s s₂ := Keeps.trans' p₁.keeps p₂.keeps
    have e : reach (.bin op a b) = elems a ++ elems b := by rw [reach]; rfl
    have i₁ := ((p₁.items T.st).grow (Keeps.grow p₂.keeps)).less (XR.anti (R' := reach (.bin op a b)) fun q hq => by rw [e]; exact List.mem_append_left _ hq)
    have i₂ := (p₂.items T₁.st).less (XR.anti (R' := reach (.bin op a b)) fun q hq => by rw [e]; exact List.mem_append_right _ hq)
    refine wpAny_mono (binop_sound he i₁ i₂ fun q hq => ((T.keeps k).xok _ q hq).1) (fun v s₃ p₃ => ?_) fun _ _ q => q
    exact .new1 (Keeps.trans' k p₃.1) rfl rfl (p₃.2.older (Keeps.grow k))
  · cases h
end
end Mine

namespace Mine
open PySem

theorem OwnR.shift {w : World} {h : Heap} {X : Addr → Prop} {N N' : Addr → Nat → Prop} (hN : ∀ a l, N a l → N' a (l + 1)) : ∀ (n l : Nat) (d : D) (v : Value), OwnR w h X N n l d v → OwnR w h X N' n (l + 1) d v := by
  intro n
  induction n with
  | zero => intro l d v r; exact r
  | succ n ih =>
    intro l d v r
    cases d with
    | list ds =>
      obtain ⟨a, vs, e, ha, hz, hl, r⟩ := r
      exact ⟨a, vs, e, hN a l ha, hz, hl, r.imp (ih (l + 1))⟩
    | none => exact r
    | bool _ => exact r
    | int _ => exact r
    | str _ => exact r
    | tuple _ => exact r

theorem mof {α : Type} {p : α → Bool} {a : α} {l : List α} (h : a ∈ l.filter p) : a ∈ l := (List.mem_filter.mp h).1

theorem XR.ext {X₀ Y : Addr → Prop} {env : Env} {own : Owned} {R : List (Nat × Nat)} {a : Addr} (h : XR (fun b => X₀ b ∨ Y b) env own R a) : XR X₀ env own R a ∨ Y a := by
  rcases h with (h | h) | h | h
  · exact .inl (.inl h)
  · exact .inr h
  · exact .inl (.inr (.inl h))
  · exact .inl (.inr (.inr h))
theorem XR.ext' {X₀ Y : Addr → Prop} {env : Env} {own : Owned} {R : List (Nat × Nat)} {a : Addr} (h : XR X₀ env own R a ∨ Y a) : XR (fun b => X₀ b ∨ Y b) env own R a := by
  rcases h with (h | h | h) | h
  · exact .inl (.inl h)
  · exact .inr (.inl h)
  · exact .inr (.inr h)
  · exact .inl (.inr h)

theorem St.extend {w : World} {base : Heap} {X₀ Y : Addr → Prop} {env : Env} {nm : List (Option Str)} {Δ : List Own} {own : Owned} {V : Str → Option Value} {ds : List D} {h h' : Heap}
    (S : St w base X₀ env nm Δ own V ds h) (g : Grow h h') (hY : ∀ a, Y a → h.get? a = none ∧ Alloc h' a) : St w base (fun a => X₀ a ∨ Y a) env nm Δ own V ds h' where
  keep := S.keep.trans g
  xal := fun a q => q.elim (fun q => (S.xal a q).grow g) fun q => (hY a q).2
  fm := S.fm.grow g
  fnew := fun a q => ⟨(S.fnew a q).1, (S.fnew a q).2.grow g⟩
  onew := fun p q => ⟨(S.onew p q).1, (S.onew p q).2.1.grow g, (S.onew p q).2.2.1, fun x => x.elim (S.onew p q).2.2.2 fun x => not_alloc (hY _ x).1 (S.onew p q).2.1⟩
  nodup := S.nodup
  vars := S.vars
  inj := S.inj
  lenΔ := S.lenΔ
  lend := S.lend
  lev := S.lev
  slots := fun i n x hx hn => by
    obtain ⟨v, d, e1, e2, r⟩ := S.slots i n x hx hn
    exact ⟨v, d, e1, e2, OwnR.mono (g.but _) (fun b o ho q => (XR.ext q).elim id fun q => by rw [(hY b q).1] at ho; cases ho) (fun a l o q e => ⟨q, g _ _ e⟩) n 0 d v r⟩

theorem Sit.extend {w : World} {h₀ : Heap} {lv : Nat} {c : Ctx} {A : Around} {env : Env} {base : Heap} {X₀ Y : Addr → Prop} {Δ : List Own} {own : Owned} {V : Str → Option Value} {ds : List D} {s s' : Shared}
    (T : Sit w h₀ lv c A env base X₀ Δ own V ds s) (k : Keeps s s') (hY : ∀ a, Y a → s.heap.get? a = none ∧ Alloc s'.heap a) : Sit w h₀ lv c A env base (fun a => X₀ a ∨ Y a) Δ own V ds s' :=
  ⟨T.a, T.e, T.st.extend (Keeps.grow k) hY, T.gr, fun a q => q.elim (T.xn a) fun q => none_of_grow T.h0 (hY a q).1⟩

theorem frs_cons_le (e : CE) (r : List CE) : frs (e :: r) ≤ fr e ∧ (r ≠ [] → frs (e :: r) ≤ frs r) ∧ frs (e :: r) ≤ 1 := by
  cases r with
  | nil => rw [frs]; exact ⟨Nat.min_le_right _ _, fun q => absurd rfl q, Nat.min_le_left _ _⟩
  | cons x r =>
    rw [frs]
    · exact ⟨by omega, fun _ => Nat.min_le_right _ _, by omega⟩
    · exact fun q => by cases q

section
variable {prog : Program} {w : World} {h₀ : Heap} {G : List D} {K : Oracle} {lv : Nat} {c : Ctx} {mg mb : Str → Option Value}

theorem bad_starred {a : Expr} {p : Pos} {ce : CE} : chkE c (.Starred a p) ce = false := by
  cases ce with
  | fn1 f a => cases f <;> rfl
  | fn2 f a b => cases f <;> rfl
  | _ => rfl
theorem star_of {e : Expr} {ce : CE} {rest : List Expr} {env : Env} (h : chkE c e ce = true) : starEach (e :: rest) env = (false, eval e env) :: starEach rest env := by
  cases e with
  | Starred a p => rw [bad_starred] at h; cases h
  | _ => rfl

theorem evs_nil : EvalsOK prog w h₀ G K lv c [] [] := by
  intro A E s env base X₀ Δ own V ds dd pos T hd he
  rw [evalCs] at he; cases he
  exact wpAny_items_nil ⟨Keeps.refl' _, [], List.nodup_nil, (fun _ q => nomatch q), rfl⟩

theorem evs_cons {e : Expr} {es : List Expr} {ce : CE} {ces : List CE} (hc : chkE c e ce = true) (h1 : EvalOK prog w h₀ G K lv c e ce) (h2 : EvalsOK prog w h₀ G K lv c es ces) : EvalsOK prog w h₀ G K lv c (e :: es) (ce :: ces) := by
  intro A E s env base X₀ Δ own V ds dd pos T hd he
  rw [evalCs] at he
  obtain ⟨d, hx, he⟩ := bindI he
  obtain ⟨dr, hr, rfl⟩ := mapI he
  rw [defds] at hd
  simp only [Bool.and_eq_true] at hd
  refine wpAny_items_cons (wpAny_mono (h1 T hd.1 hx) (fun v s₁ p₁ => ?_) fun _ _ q => q) (star_of hc)
  have T₁ := T.keeps p₁.keeps
  obtain ⟨new₁, nd₁, hn₁, r₁⟩ := p₁.fresh
  have TY := T.extend (Y := fun a => ∃ l, (a, l) ∈ new₁) p₁.keeps fun a ⟨l, q⟩ => hn₁ _ q
  refine wpAny_mono (h2 TY hd.2 hr) (fun vs s₂ p₂ => ?_) fun _ _ q => q
  obtain ⟨k₂, new₂, nd₂, hn₂, r₂⟩ := p₂
  have g₂ := Keeps.grow k₂
  obtain ⟨l1, l2, l3⟩ := frs_cons_le ce ces
  refine ⟨Keeps.trans' p₁.keeps k₂, new₁.filter (fun p => p.2 < frs (ce :: ces)) ++ new₂.filter (fun p => p.2 < frs (ce :: ces)), ?_, ?_, v, vs, rfl, ?_, ?_⟩
  · rw [List.map_append, List.nodup_append]
    refine ⟨nd₁.sublist ((List.filter_sublist).map _), nd₂.sublist ((List.filter_sublist).map _), ?_⟩
    intro a ha b hb e
    obtain ⟨p, hp, rfl⟩ := List.mem_map.mp ha
    obtain ⟨q, hq, rfl⟩ := List.mem_map.mp hb
    have := (hn₂ q (mof hq)).1
    rw [← e] at this
    exact not_alloc this (hn₁ p (mof hp)).2
  · intro p hp
    rcases List.mem_append.mp hp with hp | hp
    · exact ⟨(hn₁ p (mof hp)).1, ((hn₁ p (mof hp)).2).grow g₂⟩
    · exact ⟨none_of_grow (Keeps.grow p₁.keeps) (hn₂ p (mof hp)).1, (hn₂ p (mof hp)).2⟩
  · -- the first one
    have r₁' := OwnR.mono (X' := fun b => XR X₀ env own (reach ce) b ∨ ∃ l, (b, l) ∈ new₁) (N' := fun b l => (b, l) ∈ new₁) (g₂.but _) (fun _ _ _ q => q) (fun a l o q e => ⟨q, g₂ _ _ e⟩) _ 0 d v r₁
    -- as it lies, seen with what came later
    have r₁'' : OwnR w s₂.heap (fun b => XR X₀ env own (reach ce) b ∨ (∃ l, (b, l) ∈ new₁) ∨ ∃ l, (b, l) ∈ new₂) (fun b l => (b, l) ∈ new₁) (fr ce) 0 d v :=
      OwnR.mono (g₂.but _) (fun b o ho q => q.elim .inl fun q => q.elim .inr fun ⟨l, q⟩ => by
        have := (hn₂ _ q).1
        rw [this] at ho; cases ho) (fun a l o q e => ⟨q, g₂ _ _ e⟩) _ 0 d v r₁
    refine OwnR.drop (fun b q => ?_) (fr ce) 0 (frs (ce :: ces)) d v l1 (fun a j q _ hj => List.mem_append_left _ (List.mem_filter.mpr ⟨q, by simpa using hj⟩)) (fun a j q hj x => ?_) r₁''
    · rcases q with q | ⟨l, q⟩
      · exact .inl (XR.anti (fun p hp => by rw [reachs]; exact List.mem_append_left _ hp) b q)
      · rcases List.mem_append.mp q with q | q
        · exact .inr (.inl ⟨l, mof q⟩)
        · exact .inr (.inr ⟨l, mof q⟩)
    · rcases x with x | ⟨l, x⟩
      · exact not_alloc (hn₁ _ q).1 (T.st.xr_al a x)
      · rcases List.mem_append.mp x with x | x
        · have e : (a, j) = (a, l) := nodup_inj nd₁ q (mof x) rfl
          cases e
          have := (List.mem_filter.mp x).2
          simp at this; omega
        · have := (hn₂ _ (mof x)).1
          exact not_alloc this (hn₁ _ q).2
  · -- the others
    by_cases hne : ces = []
    · subst hne
      rw [evalCs] at hr; cases hr
      rw [show vs = [] from r₂]
      rfl
    · refine r₂.imp fun d' v' r => OwnR.drop (fun b q => ?_) (frs ces) 0 (frs (ce :: ces)) d' v' (l2 hne) (fun a j q _ hj => List.mem_append_right _ (List.mem_filter.mpr ⟨q, by simpa using hj⟩)) (fun a j q hj x => ?_) ?_ (X := fun b => XR X₀ env own (reachs ces) b ∨ (∃ l, (b, l) ∈ new₁) ∨ ∃ l, (b, l) ∈ new₂)
      · rcases q with q | ⟨l, q⟩
        · exact .inl (XR.anti (fun p hp => by rw [reachs]; exact List.mem_append_right _ hp) b q)
        · rcases List.mem_append.mp q with q | q
          · exact .inr (.inl ⟨l, mof q⟩)
          · exact .inr (.inr ⟨l, mof q⟩)
      · rcases x with x | ⟨l, x⟩
        · exact not_alloc (hn₂ _ q).1 (T₁.st.xr_al a x)
        · rcases List.mem_append.mp x with x | x
          · exact not_alloc (hn₂ _ q).1 (hn₁ _ (mof x)).2
          · have e : (a, j) = (a, l) := nodup_inj nd₂ q (mof x) rfl
            cases e
            have := (List.mem_filter.mp x).2
            simp at this; omega
      · refine OwnR.mono (fun _ _ _ e => e) (fun b o _ q => ?_) (fun a l o q e => ⟨q, e⟩) _ 0 d' v' r
        rcases q with q | q | q
        · exact .inl (XR.ext' (.inl q))
        · exact .inl (XR.ext' (.inr q))
        · exact .inr q

theorem evs_rep {X₀ : Addr → Prop} {env : Env} {base : Heap} {nm : List (Option Str)} {Δ : List Own} {own : Owned} {V : Str → Option Value} {ds : List D} {s s' : Shared} {ces : List CE} {dd : List D} {vs : List Value} {new : List (Addr × Nat)}
    (S : St w base X₀ env nm Δ own V ds s.heap) (hn : ∀ p ∈ new, s.heap.get? p.1 = none ∧ Alloc s'.heap p.1)
    (r : All2 (OwnR w s'.heap (fun b => XR X₀ env own (reachs ces) b ∨ ∃ l, (b, l) ∈ new) (fun b l => (b, l) ∈ new) (frs ces) 0) dd vs) : RepL w s'.heap (XR X₀ env own (reachs ces)) dd vs :=
  repL_all2.mpr (r.imp fun d v r => OwnR.drop (N' := fun _ _ => False) (fun b q => .inl q) (frs ces) 0 0 d v (Nat.zero_le _) (fun _ _ _ _ q => absurd q (by omega)) (fun a j hm _ q => not_alloc (hn _ hm).1 (S.xr_al a q)) r)

theorem evalCs_length : ∀ {ces : List CE} {ds dd : List D}, evalCs G K ces ds = some dd → dd.length = ces.length
  | [], _, _, h => by rw [evalCs] at h; cases h; rfl
  | ce :: ces, _, _, h => by
    rw [evalCs] at h
    obtain ⟨d, _, h⟩ := bindI h
    obtain ⟨dr, hr, rfl⟩ := mapI h
    simp [evalCs_length hr]


theorem ev_tuple {e : Expr} {ces : List CE} (hs : ∀ xs, chkEs c xs ces = true → EvalsOK prog w h₀ G K lv c xs ces) (h : chkE c e (.tuple ces) = true) : EvalOK prog w h₀ G K lv c e (.tuple ces) := by
  intro A E s env base X₀ Δ own V ds d T hd he
  rw [evalC] at he
  rw [defd] at hd
  obtain ⟨dd, hx, rfl⟩ := mapI he
  unfold chkE at h
  split at h
  · rename_i xs k p
    simp only [Bool.and_eq_true] at h
    refine wpAny_Tuple (wpAny_mono (hs xs h.2 T hd hx) (fun vs s₁ p₁ => ?_) fun _ _ q => q)
    obtain ⟨k, new, nd, hn, r⟩ := p₁
    have rl := evs_rep T.st hn r
    have hl : dd.length ≤ LIM := by rw [evalCs_length hx]; exact of_decide_eq_true h.1
    refine ⟨by rw [rl.length, ← lim_line]; exact hl, .plain (Keeps.trans' k ⟨_, _, rfl, push_grow _ _⟩) rfl rfl ?_⟩
    rw [show reach (.tuple ces) = reachs ces by rw [reach]]
    exact Rep.mkTuple (push_grow _ _) (fun q => not_alloc none_at ((T.keeps k).st.xr_al _ q)) hl ⟨_, Heap.get?_push_size _ rfl⟩ (by simpa using rl)
  · cases h

theorem ev_list {e : Expr} {ces : List CE} (hs : ∀ xs, chkEs c xs ces = true → EvalsOK prog w h₀ G K lv c xs ces) (h : chkE c e (.list ces) = true) : EvalOK prog w h₀ G K lv c e (.list ces) := by
  intro A E s env base X₀ Δ own V ds d T hd he
  rw [evalC] at he
  rw [defd] at hd
  obtain ⟨dd, hx, rfl⟩ := mapI he
  unfold chkE at h
  split at h
  · rename_i xs p
    simp only [Bool.and_eq_true] at h
    refine wpAny_List (wpAny_mono (hs xs h.2 T hd hx) (fun vs s₁ p₁ => ?_) fun _ _ q => q)
    obtain ⟨k, new, nd, hn, r⟩ := p₁
    have hlen := r.length
    have hl : dd.length ≤ LIM := by rw [evalCs_length hx]; exact of_decide_eq_true h.1
    refine ⟨by rw [hlen, ← lim_line]; exact hl, Keeps.trans' k ⟨_, _, rfl, push_grow _ _⟩, ⟨(s₁.heap.objs.size, 0) :: new.map (fun p => (p.1, p.2 + 1)), ?_, ?_, ?_⟩, fun x l q => by cases q⟩
    · rw [List.map_cons, List.map_map, List.nodup_cons]
      refine ⟨fun q => ?_, nd⟩
      obtain ⟨p, hp, e⟩ := List.mem_map.mp q
      have e' : p.1 = s₁.heap.objs.size := e
      exact not_alloc none_at (e' ▸ (hn p hp).2)
    · intro p hp
      rcases List.mem_cons.mp hp with rfl | hp
      · exact ⟨none_of_grow (Keeps.grow k) none_at, _, Heap.get?_push_size _ rfl⟩
      · obtain ⟨q, hq, rfl⟩ := List.mem_map.mp hp
        exact ⟨(hn q hq).1, (hn q hq).2.grow (push_grow _ _)⟩
    · rw [show fr (.list ces) = frs ces + 1 by rw [fr, Nat.add_comm], show reach (.list ces) = reachs ces by rw [reach]]
      refine ⟨_, _, rfl, List.mem_cons_self, hl, ⟨_, Heap.get?_push_size _ rfl⟩, ?_⟩
      rw [List.toList_toArray]
      refine r.imp fun d v r => OwnR.shift (N := fun b l => (b, l) ∈ new) (N' := fun b l => (b, l) ∈ (s₁.heap.objs.size, 0) :: new.map (fun p => (p.1, p.2 + 1))) (fun a l q => List.mem_cons_of_mem _ (List.mem_map.mpr ⟨(a, l), q, rfl⟩)) _ 0 d v ?_
      refine OwnR.mono ((push_grow _ _).but _) (fun b o ho q => ?_) (fun a l o q e => ⟨q, push_grow _ _ _ _ e⟩) _ 0 d v r
      rcases q with q | ⟨l, q⟩
      · exact .inl q
      · rcases List.mem_cons.mp q with q | q
        · cases q
          rw [none_at] at ho; cases ho
        · obtain ⟨p, hp, e⟩ := List.mem_map.mp q
          cases e
          exact .inr ⟨_, hp⟩
  · cases h
end
end Mine

namespace Mine
open PySem

section
variable {prog : Program} {w : World} {h₀ : Heap} {G : List D} {K : Oracle} {lv : Nat} {c : Ctx} {mg mb : Str → Option Value}

theorem bad_set {a : List Expr} {k : Nat} {p : Pos} {ce : CE} : chkE c (.Set a k p) ce = false := by
  cases ce with
  | fn1 f a => cases f <;> rfl
  | fn2 f a b => cases f <;> rfl
  | _ => rfl
theorem marks_of {e : Expr} {ce : CE} {op : CmpOp} (h : chkE c e ce = true) : behindInMarks op e = false := by
  cases e with
  | Set a k p => rw [bad_set] at h; cases h
  | _ => rfl

theorem AOk.u20 {A : Around} (a : AOk lv A) : A.units + 20 < cLine := by have := a.units; omega

theorem ev_cmp {e : Expr} {op : COp} {a b : CE} (ha : ∀ x, chkE c x a = true → EvalOK prog w h₀ G K lv c x a) (hb : ∀ x, chkE c x b = true → EvalOK prog w h₀ G K lv c x b) (h : chkE c e (.cmp op a b) = true) :
    EvalOK prog w h₀ G K lv c e (.cmp op a b) ∧ TrueOK prog w h₀ G K lv c e (.cmp op a b) := by
  unfold chkE at h
  split at h
  · rename_i x o y p
    simp only [Bool.and_eq_true, beq_iff_eq] at h
    obtain ⟨⟨rfl, h1⟩, h2⟩ := h
    constructor
    · intro A E s env base X₀ Δ own V ds d T hd he
      rw [evalC] at he
      rw [defd] at hd
      simp only [Bool.and_eq_true] at hd
      obtain ⟨dx, hx, he⟩ := bindI he
      obtain ⟨dy, hy, he⟩ := bindI he
      obtain ⟨r, hr, rfl⟩ := mapI he
      refine wpAny_Compare1 (wpAny_mono (ha x h1 T hd.1 hx) (fun vx s₁ p₁ => ?_) fun _ _ q => q) (marks_of h2)
      have T₁ := T.keeps p₁.keeps
      refine wpAny_mono (hb y h2 T₁ hd.2 hy) (fun vy s₂ p₂ => ?_) fun _ _ q => q
      refine wpAny_mono (cmp_sound T.a.u20 hr ((p₁.rep T.st).grow (Keeps.grow p₂.keeps)) (p₂.rep T₁.st)) (fun v s₃ p₃ => ?_) fun _ _ q => q
      obtain ⟨rfl, k⟩ := p₃
      exact .plain (Keeps.trans' p₁.keeps (Keeps.trans' p₂.keeps k)) rfl rfl (by rw [Rep])
    · intro A E s env base X₀ Δ own V ds r T hd he
      rw [evalC] at he
      rw [defd] at hd
      simp only [Bool.and_eq_true] at hd
      obtain ⟨d, he, hr'⟩ := bindI he
      obtain ⟨dx, hx, he⟩ := bindI he
      obtain ⟨dy, hy, he⟩ := bindI he
      obtain ⟨r, hr, rfl⟩ := mapI he
      cases hr'
      refine wpAny_isTrue_Compare1 (wpAny_mono (ha x h1 T hd.1 hx) (fun vx s₁ p₁ => ?_) fun _ _ q => q) (marks_of h2)
      have T₁ := T.keeps p₁.keeps
      refine wpAny_mono (hb y h2 T₁ hd.2 hy) (fun vy s₂ p₂ => ?_) fun _ _ q => q
      refine wpAny_mono (cmp_sound T.a.u20 hr ((p₁.rep T.st).grow (Keeps.grow p₂.keeps)) (p₂.rep T₁.st)) (fun v s₃ p₃ => ?_) fun _ _ q => q
      obtain ⟨rfl, k⟩ := p₃
      exact wpAny_truthy_bool ⟨rfl, Keeps.trans' p₁.keeps (Keeps.trans' p₂.keeps k)⟩
  · cases h

theorem ev_cmp2 {e : Expr} {op op' : COp} {a b b' : CE} (ha : ∀ x, chkE c x a = true → EvalOK prog w h₀ G K lv c x a) (hb : ∀ x, chkE c x b = true → EvalOK prog w h₀ G K lv c x b) (hc : ∀ x, chkE c x b' = true → EvalOK prog w h₀ G K lv c x b') (h : chkE c e (.cmp2 op op' a b b') = true) :
    EvalOK prog w h₀ G K lv c e (.cmp2 op op' a b b') ∧ TrueOK prog w h₀ G K lv c e (.cmp2 op op' a b b') := by
  unfold chkE at h
  split at h
  · rename_i x o o' y z p
    simp only [Bool.and_eq_true, beq_iff_eq] at h
    obtain ⟨⟨⟨⟨rfl, rfl⟩, h1⟩, h2⟩, h3⟩ := h
    have lm : lastMarks [cmpOf op, cmpOf op'] [y, z] = false := marks_of h3
    constructor
    · intro A E s env base X₀ Δ own V ds d T hd he
      rw [evalC] at he
      rw [defd] at hd
      simp only [Bool.and_eq_true] at hd
      obtain ⟨dx, hx, he⟩ := bindI he
      obtain ⟨dy, hy, he⟩ := bindI he
      obtain ⟨r, hr, he⟩ := bindI he
      refine PyProof.Rows.Compare_chain (wpAny_mono (ha x h1 T hd.1.1 hx) (fun vx s₁ p₁ => ?_) fun _ _ q => q) lm
      have T₁ := T.keeps p₁.keeps
      refine PyProof.Rows.chain_link (wpAny_mono (hb y h2 T₁ hd.1.2 hy) (fun vy s₂ p₂ => ?_) fun _ _ q => q)
      refine wpAny_mono (cmp_sound T.a.u20 hr ((p₁.rep T.st).grow (Keeps.grow p₂.keeps)) (p₂.rep T₁.st)) (fun v s₃ p₃ => ?_) fun _ _ q => q
      obtain ⟨rfl, k⟩ := p₃
      have k₃ := Keeps.trans' p₁.keeps (Keeps.trans' p₂.keeps k)
      have T₃ := T.keeps k₃
      refine wpAny_truthy_bool ?_
      cases r with
      | false =>
        cases he
        exact .plain k₃ rfl rfl (by rw [Rep])
      | true =>
        obtain ⟨dz, hz, he⟩ := bindI he
        obtain ⟨r', hr', rfl⟩ := mapI he
        refine PyProof.Rows.chain_last (wpAny_mono (hc z h3 T₃ hd.2 hz) (fun vz s₄ p₄ => ?_) fun _ _ q => q)
        refine wpAny_mono (cmp_sound T.a.u20 hr' ((p₂.rep T₁.st).grow (Keeps.grow (Keeps.trans' k p₄.keeps))) (p₄.rep T₃.st)) (fun v s₅ p₅ => ?_) fun _ _ q => q
        obtain ⟨rfl, k'⟩ := p₅
        exact .plain (Keeps.trans' k₃ (Keeps.trans' p₄.keeps k')) rfl rfl (by rw [Rep])
    · intro A E s env base X₀ Δ own V ds r₀ T hd he
      rw [evalC] at he
      rw [defd] at hd
      simp only [Bool.and_eq_true] at hd
      obtain ⟨d, he, hr₀⟩ := bindI he
      obtain ⟨dx, hx, he⟩ := bindI he
      obtain ⟨dy, hy, he⟩ := bindI he
      obtain ⟨r, hr, he⟩ := bindI he
      refine PyProof.Rows.isTrue_chain (wpAny_mono (ha x h1 T hd.1.1 hx) (fun vx s₁ p₁ => ?_) fun _ _ q => q) lm
      have T₁ := T.keeps p₁.keeps
      refine PyProof.Rows.test_link (wpAny_mono (hb y h2 T₁ hd.1.2 hy) (fun vy s₂ p₂ => ?_) fun _ _ q => q)
      refine wpAny_mono (cmp_sound T.a.u20 hr ((p₁.rep T.st).grow (Keeps.grow p₂.keeps)) (p₂.rep T₁.st)) (fun v s₃ p₃ => ?_) fun _ _ q => q
      obtain ⟨rfl, k⟩ := p₃
      have k₃ := Keeps.trans' p₁.keeps (Keeps.trans' p₂.keeps k)
      have T₃ := T.keeps k₃
      refine wpAny_truthy_bool ?_
      cases r with
      | false =>
        cases he; cases hr₀
        exact ⟨rfl, k₃⟩
      | true =>
        obtain ⟨dz, hz, he⟩ := bindI he
        obtain ⟨r', hr', rfl⟩ := mapI he
        cases hr₀
        refine PyProof.Rows.test_last (wpAny_mono (hc z h3 T₃ hd.2 hz) (fun vz s₄ p₄ => ?_) fun _ _ q => q)
        refine wpAny_mono (cmp_sound T.a.u20 hr' ((p₂.rep T₁.st).grow (Keeps.grow (Keeps.trans' k p₄.keeps))) (p₄.rep T₃.st)) (fun v s₅ p₅ => ?_) fun _ _ q => q
        obtain ⟨rfl, k'⟩ := p₅
        exact wpAny_truthy_bool ⟨rfl, Keeps.trans' k₃ (Keeps.trans' p₄.keeps k')⟩
  · cases h

/-- a value that is a bool, asked for its truth -/
theorem true_of_ev {e : Expr} {ce : CE} (he : ∀ (env : Env) (whole : Sem Value), isTrue e env whole = (do let v ← whole; standAt e.pos; holding [v] (truthy v))) (h : EvalOK prog w h₀ G K lv c e ce) : TrueOK prog w h₀ G K lv c e ce := by
  intro A E s env base X₀ Δ own V ds b T hd hb
  obtain ⟨d, hx, hb⟩ := bindI hb
  unfold asB at hb
  split at hb
  · cases hb
    refine wpAny_isTrue_value (wpAny_mono (h T hd hx) (fun v s₁ p₁ => ?_) fun _ _ q => q) (he env _)
    have r := p₁.rep T.st
    rw [Rep] at r
    subst r
    exact wpAny_truthy_bool ⟨rfl, p₁.keeps⟩
  · cases hb

theorem ev_not {e : Expr} {a : CE} (ha : ∀ x, chkE c x a = true → EvalOK prog w h₀ G K lv c x a ∧ TrueOK prog w h₀ G K lv c x a) (h : chkE c e (.not a) = true) :
    EvalOK prog w h₀ G K lv c e (.not a) ∧ TrueOK prog w h₀ G K lv c e (.not a) := by
  unfold chkE at h
  split at h
  · rename_i x p
    constructor
    · intro A E s env base X₀ Δ own V ds d T hd he
      rw [evalC] at he
      rw [defd] at hd
      obtain ⟨b, hb, rfl⟩ := mapI he
      obtain ⟨d, hx, hb⟩ := bindI hb
      unfold asB at hb
      split at hb
      · cases hb
        refine wpAny_UnaryOp (wpAny_mono ((ha x h).1 T hd hx) (fun v s₁ p₁ => ?_) fun _ _ q => q)
        have r := p₁.rep T.st
        rw [Rep] at r
        subst r
        exact not_value (wpAny_truthy_bool (.plain p₁.keeps rfl rfl (by rw [Rep])))
      · cases hb
    · intro A E s env base X₀ Δ own V ds b T hd he
      rw [evalC] at he
      rw [defd] at hd
      obtain ⟨d, he, hb⟩ := bindI he
      obtain ⟨b', hb', rfl⟩ := mapI he
      cases hb
      exact wpAny_isTrue_Not (wpAny_mono ((ha x h).2 T hd hb') (fun b s₁ p₁ => ⟨by rw [p₁.1], p₁.2⟩) fun _ _ q => q)
  · cases h
end
end Mine

namespace Mine
open PySem

/-- expressions and their compiled forms, each sound -/
noncomputable def AllOK (prog : Program) (w : World) (h₀ : Heap) (G : List D) (K : Oracle) (lv : Nat) (c : Ctx) : List Expr → List CE → Prop
  | [], [] => True
  | x :: xs, e :: es => (chkE c x e = true ∧ EvalOK prog w h₀ G K lv c x e ∧ TrueOK prog w h₀ G K lv c x e) ∧ AllOK prog w h₀ G K lv c xs es
  | _, _ => False

section
variable {prog : Program} {w : World} {h₀ : Heap} {G : List D} {K : Oracle} {lv : Nat} {c : Ctx} {mg mb : Str → Option Value}

theorem AllOK.evals : ∀ {xs : List Expr} {es : List CE}, AllOK prog w h₀ G K lv c xs es → EvalsOK prog w h₀ G K lv c xs es
  | [], [], _ => evs_nil
  | _ :: _, _ :: _, ⟨⟨h1, h2, _⟩, r⟩ => evs_cons h1 h2 r.evals
  | [], _ :: _, h => h.elim
  | _ :: _, [], h => h.elim

theorem boolAnd {A : Around} {E : Value → Shared → Prop} {env : Env} {base : Heap} {X₀ : Addr → Prop} {Δ : List Own} {own : Owned} {V : Str → Option Value} {ds : List D} {pos : Pos} :
    ∀ {xs : List Expr} {es : List CE} {s : Shared} {d : D}, AllOK prog w h₀ G K lv c xs es → Sit w h₀ lv c A env base X₀ Δ own V ds s → defds Δ es = true → evalAnd G K es ds = some d →
      wpAny (model prog w) A (boolOp pos .And (evalEach xs env)) (fun v s' => Keeps s s' ∧ Rep w s'.heap (XR X₀ env own (reachs es)) d v) E s
  | [], [], _, _, _, _, _, he => by rw [evalAnd] at he; cases he
  | [], _ :: _, _, _, h, _, _, _ => h.elim
  | _ :: _, [], _, _, h, _, _, _ => h.elim
  | [x], [e], s, d, h, T, hd, he => by
    rw [evalAnd] at he
    rw [defds] at hd
    simp only [Bool.and_eq_true] at hd
    show wpAny _ _ (eval x env) _ _ _
    refine wpAny_mono (h.1.2.1 T hd.1 he) (fun v s₁ p₁ => ⟨p₁.keeps, (p₁.rep T.st).less (XR.anti fun q hq => ?_)⟩) fun _ _ q => q
    rw [reachs]; exact List.mem_append_left _ hq
  | [_], _ :: _ :: _, _, _, h, _, _, _ => h.2.elim
  | _ :: _ :: _, [_], _, _, h, _, _, _ => h.2.elim
  | x :: y :: xs, e :: f :: es, s, d, h, T, hd, he => by
    rw [evalAnd] at he
    · rw [defds] at hd
      simp only [Bool.and_eq_true] at hd
      obtain ⟨b, hb, he⟩ := bindI he
      obtain ⟨d₁, hx, hb⟩ := bindI hb
      unfold asB at hb
      split at hb
      · cases hb
        show wpAny _ _ (eval x env >>= _) _ _ _
        refine wpAny_bind (wpAny_mono (h.1.2.1 T hd.1 hx) (fun v s₁ p₁ => ?_) fun _ _ q => q)
        have r := p₁.rep T.st
        rw [Rep] at r
        subst r
        refine wpAny_bind (wpAny_standAt (wpAny_bind (wpAny_holding (wpAny_truthy_bool ?_))))
        cases b with
        | false =>
          cases he
          exact wpAny_pure ⟨p₁.keeps, by rw [Rep]⟩
        | true =>
          refine wpAny_mono (boolAnd (xs := y :: xs) (es := f :: es) h.2 (T.keeps p₁.keeps) hd.2 he) (fun v s₂ p₂ => ⟨Keeps.trans' p₁.keeps p₂.1, p₂.2.less (XR.anti fun q hq => ?_)⟩) fun _ _ q => q
          rw [reachs]; exact List.mem_append_right _ hq
      · cases hb
    · intro q; cases q

theorem boolOr {A : Around} {E : Value → Shared → Prop} {env : Env} {base : Heap} {X₀ : Addr → Prop} {Δ : List Own} {own : Owned} {V : Str → Option Value} {ds : List D} {pos : Pos} :
    ∀ {xs : List Expr} {es : List CE} {s : Shared} {d : D}, AllOK prog w h₀ G K lv c xs es → Sit w h₀ lv c A env base X₀ Δ own V ds s → defds Δ es = true → evalOr G K es ds = some d →
      wpAny (model prog w) A (boolOp pos .Or (evalEach xs env)) (fun v s' => Keeps s s' ∧ Rep w s'.heap (XR X₀ env own (reachs es)) d v) E s
  | [], [], _, _, _, _, _, he => by rw [evalOr] at he; cases he
  | [], _ :: _, _, _, h, _, _, _ => h.elim
  | _ :: _, [], _, _, h, _, _, _ => h.elim
  | [x], [e], s, d, h, T, hd, he => by
    rw [evalOr] at he
    rw [defds] at hd
    simp only [Bool.and_eq_true] at hd
    show wpAny _ _ (eval x env) _ _ _
    refine wpAny_mono (h.1.2.1 T hd.1 he) (fun v s₁ p₁ => ⟨p₁.keeps, (p₁.rep T.st).less (XR.anti fun q hq => ?_)⟩) fun _ _ q => q
    rw [reachs]; exact List.mem_append_left _ hq
  | [_], _ :: _ :: _, _, _, h, _, _, _ => h.2.elim
  | _ :: _ :: _, [_], _, _, h, _, _, _ => h.2.elim
  | x :: y :: xs, e :: f :: es, s, d, h, T, hd, he => by
    rw [evalOr] at he
    · rw [defds] at hd
      simp only [Bool.and_eq_true] at hd
      obtain ⟨b, hb, he⟩ := bindI he
      obtain ⟨d₁, hx, hb⟩ := bindI hb
      unfold asB at hb
      split at hb
      · cases hb
        show wpAny _ _ (eval x env >>= _) _ _ _
        refine wpAny_bind (wpAny_mono (h.1.2.1 T hd.1 hx) (fun v s₁ p₁ => ?_) fun _ _ q => q)
        have r := p₁.rep T.st
        rw [Rep] at r
        subst r
        refine wpAny_bind (wpAny_standAt (wpAny_bind (wpAny_holding (wpAny_truthy_bool ?_))))
        cases b with
        | true =>
          cases he
          exact wpAny_pure ⟨p₁.keeps, by rw [Rep]⟩
        | false =>
          refine wpAny_mono (boolOr (xs := y :: xs) (es := f :: es) h.2 (T.keeps p₁.keeps) hd.2 he) (fun v s₂ p₂ => ⟨Keeps.trans' p₁.keeps p₂.1, p₂.2.less (XR.anti fun q hq => ?_)⟩) fun _ _ q => q
          rw [reachs]; exact List.mem_append_right _ hq
      · cases hb
    · intro q; cases q

theorem trueAnd {A : Around} {E : Value → Shared → Prop} {env : Env} {base : Heap} {X₀ : Addr → Prop} {Δ : List Own} {own : Owned} {V : Str → Option Value} {ds : List D} :
    ∀ {xs : List Expr} {es : List CE} {s : Shared} {b : Bool}, AllOK prog w h₀ G K lv c xs es → Sit w h₀ lv c A env base X₀ Δ own V ds s → defds Δ es = true → (evalAnd G K es ds).bind asB = some b →
      wpAny (model prog w) A (allTrue .And xs env) (fun b' s' => b' = b ∧ Keeps s s') E s
  | [], [], _, _, _, _, _, he => by rw [evalAnd] at he; cases he
  | [], _ :: _, _, _, h, _, _, _ => h.elim
  | _ :: _, [], _, _, h, _, _, _ => h.elim
  | [x], [e], s, b, h, T, hd, he => by
    rw [evalAnd] at he
    rw [defds] at hd
    simp only [Bool.and_eq_true] at hd
    refine wpAny_allTrue_And_cons (wpAny_mono (h.1.2.2 T hd.1 he) (fun b' s₁ p₁ => ?_) fun _ _ q => q)
    obtain ⟨rfl, k⟩ := p₁
    cases b' with
    | false => exact ⟨rfl, k⟩
    | true => exact wpAny_allTrue_And_nil ⟨rfl, k⟩
  | [_], _ :: _ :: _, _, _, h, _, _, _ => h.2.elim
  | _ :: _ :: _, [_], _, _, h, _, _, _ => h.2.elim
  | x :: y :: xs, e :: f :: es, s, b, h, T, hd, he => by
    rw [evalAnd] at he
    · rw [defds] at hd
      simp only [Bool.and_eq_true] at hd
      obtain ⟨d, he, hb⟩ := bindI he
      obtain ⟨b₁, hb₁, he⟩ := bindI he
      refine wpAny_allTrue_And_cons (wpAny_mono (h.1.2.2 T hd.1 hb₁) (fun b' s₁ p₁ => ?_) fun _ _ q => q)
      obtain ⟨rfl, k⟩ := p₁
      cases b' with
      | false =>
        cases he; cases hb
        exact ⟨rfl, k⟩
      | true => exact wpAny_mono (trueAnd (xs := y :: xs) (es := f :: es) h.2 (T.keeps k) hd.2 (Option.bind_eq_some_iff.mpr ⟨d, he, hb⟩)) (fun b s₂ p₂ => ⟨p₂.1, Keeps.trans' k p₂.2⟩) fun _ _ q => q
    · intro q; cases q

theorem trueOr {A : Around} {E : Value → Shared → Prop} {env : Env} {base : Heap} {X₀ : Addr → Prop} {Δ : List Own} {own : Owned} {V : Str → Option Value} {ds : List D} :
    ∀ {xs : List Expr} {es : List CE} {s : Shared} {b : Bool}, AllOK prog w h₀ G K lv c xs es → Sit w h₀ lv c A env base X₀ Δ own V ds s → defds Δ es = true → (evalOr G K es ds).bind asB = some b →
      wpAny (model prog w) A (allTrue .Or xs env) (fun b' s' => b' = b ∧ Keeps s s') E s
  | [], [], _, _, _, _, _, he => by rw [evalOr] at he; cases he
  | [], _ :: _, _, _, h, _, _, _ => h.elim
  | _ :: _, [], _, _, h, _, _, _ => h.elim
  | [x], [e], s, b, h, T, hd, he => by
    rw [evalOr] at he
    rw [defds] at hd
    simp only [Bool.and_eq_true] at hd
    refine wpAny_allTrue_Or_cons (wpAny_mono (h.1.2.2 T hd.1 he) (fun b' s₁ p₁ => ?_) fun _ _ q => q)
    obtain ⟨rfl, k⟩ := p₁
    cases b' with
    | true => exact ⟨rfl, k⟩
    | false => exact wpAny_allTrue_Or_nil ⟨rfl, k⟩
  | [_], _ :: _ :: _, _, _, h, _, _, _ => h.2.elim
  | _ :: _ :: _, [_], _, _, h, _, _, _ => h.2.elim
  | x :: y :: xs, e :: f :: es, s, b, h, T, hd, he => by
    rw [evalOr] at he
    · rw [defds] at hd
      simp only [Bool.and_eq_true] at hd
      obtain ⟨d, he, hb⟩ := bindI he
      obtain ⟨b₁, hb₁, he⟩ := bindI he
      refine wpAny_allTrue_Or_cons (wpAny_mono (h.1.2.2 T hd.1 hb₁) (fun b' s₁ p₁ => ?_) fun _ _ q => q)
      obtain ⟨rfl, k⟩ := p₁
      cases b' with
      | true =>
        cases he; cases hb
        exact ⟨rfl, k⟩
      | false => exact wpAny_mono (trueOr (xs := y :: xs) (es := f :: es) h.2 (T.keeps k) hd.2 (Option.bind_eq_some_iff.mpr ⟨d, he, hb⟩)) (fun b s₂ p₂ => ⟨p₂.1, Keeps.trans' k p₂.2⟩) fun _ _ q => q
    · intro q; cases q

theorem ev_and {e : Expr} {es : List CE} (hs : ∀ xs, chkEs c xs es = true → AllOK prog w h₀ G K lv c xs es) (h : chkE c e (.and es) = true) :
    EvalOK prog w h₀ G K lv c e (.and es) ∧ TrueOK prog w h₀ G K lv c e (.and es) := by
  unfold chkE at h
  split at h
  · rename_i xs p
    constructor
    · intro A E s env base X₀ Δ own V ds d T hd he
      rw [evalC] at he
      rw [defd] at hd
      show wpAny _ _ (boolOp p .And (evalEach xs env)) _ _ _
      refine wpAny_mono (boolAnd (hs xs h) T hd he) (fun v s₁ p₁ => .plain p₁.1 rfl rfl ?_) fun _ _ q => q
      rw [show reach (.and es) = reachs es by rw [reach]]; exact p₁.2
    · intro A E s env base X₀ Δ own V ds b T hd he
      rw [evalC] at he
      rw [defd] at hd
      exact wpAny_isTrue_BoolOp (trueAnd (hs xs h) T hd he)
  · cases h

theorem ev_or {e : Expr} {es : List CE} (hs : ∀ xs, chkEs c xs es = true → AllOK prog w h₀ G K lv c xs es) (h : chkE c e (.or es) = true) :
    EvalOK prog w h₀ G K lv c e (.or es) ∧ TrueOK prog w h₀ G K lv c e (.or es) := by
  unfold chkE at h
  split at h
  · rename_i xs p
    constructor
    · intro A E s env base X₀ Δ own V ds d T hd he
      rw [evalC] at he
      rw [defd] at hd
      show wpAny _ _ (boolOp p .Or (evalEach xs env)) _ _ _
      refine wpAny_mono (boolOr (hs xs h) T hd he) (fun v s₁ p₁ => .plain p₁.1 rfl rfl ?_) fun _ _ q => q
      rw [show reach (.or es) = reachs es by rw [reach]]; exact p₁.2
    · intro A E s env base X₀ Δ own V ds b T hd he
      rw [evalC] at he
      rw [defd] at hd
      exact wpAny_isTrue_BoolOp (trueOr (hs xs h) T hd he)
  · cases h


theorem ev_neg {e : Expr} {a : CE} (ha : ∀ x, chkE c x a = true → EvalOK prog w h₀ G K lv c x a) (h : chkE c e (.neg a) = true) : EvalOK prog w h₀ G K lv c e (.neg a) := by
  unfold chkE at h
  split at h
  · rename_i x p
    intro A E s env base X₀ Δ own V ds d T hd he
    rw [evalC] at he
    rw [defd] at hd
    obtain ⟨d₁, hx, he⟩ := bindI he
    split at he
    · cases he
      refine wpAny_UnaryOp (wpAny_mono (ha x h T hd hx) (fun v s₁ p₁ => ?_) fun _ _ q => q)
      have r := p₁.rep T.st
      rw [Rep] at r
      obtain ⟨t, rfl⟩ := r
      exact PyProof.Rows.neg_int (.plain (Keeps.trans' p₁.keeps (Keeps.tok _ _)) rfl rfl (by rw [Rep]; exact ⟨_, rfl⟩))
    · cases he
  · cases h

/-! calls -/
theorem eval_args {A : Around} {E : Value → Shared → Prop} {s : Shared} {env : Env} {f : Value} {pos : Pos} {x : Expr} {xs : List Expr} {e : CE} {es : List CE} (h : AllOK prog w h₀ G K lv c (x :: xs) (e :: es)) {Q : Args → Shared → Prop}
    (hq : wpAny (model prog w) A (spliced (backTo pos (starEach (x :: xs) env))) (fun vs s' => Q ⟨vs, []⟩ s') E s) : wpAny (model prog w) A (evalArgs f true (backTo pos (starEach (x :: xs) env)) []) Q E s := by
  rw [star_of h.1.1] at hq ⊢
  exact Calls.evalArgs_plain hq

/-- a call of one of the text's own functions -/
theorem ev_call {e : Expr} {f : Nat} {es : List CE} (GL : Glo w h₀ mg mb c.gl G) (KS : KSpec prog w h₀ mg c.fn lv K) (hs : ∀ xs, chkEs c xs es = true → AllOK prog w h₀ G K lv c xs es) (h : chkE c e (.call f es) = true) :
    EvalOK prog w h₀ G K lv c e (.call f es) := by
  unfold chkE at h
  split at h
  · rename_i x as hco
    simp only [Bool.and_eq_true, beq_iff_eq] at h
    obtain ⟨⟨⟨h1, h2⟩, h3⟩, h4⟩ := h
    obtain ⟨p, q, rfl⟩ := callOf_eq hco
    intro A E s env base X₀ Δ own V ds d T hd he
    rw [evalC] at he
    rw [defd] at hd
    obtain ⟨args, ha, he⟩ := bindI he
    obtain ⟨fa, o, fd, hfa, ho, hfd, spec⟩ := KS f args d x h1 he
    have ok := hs as h3
    cases as with
    | nil => simp at h4
    | cons y ys =>
      cases es with
      | nil => exact ok.elim
      | cons ey es =>
        refine PyProof.Rows.Call_Name rfl (load_global GL T h2 hfa ?_)
        refine Calls.callWith_function (o := o) (fd := fd) (eval_args ok (wpAny_mono (ok.evals T hd ha) (fun vs s₁ p₁ => ?_) fun _ _ q => q))
        obtain ⟨k, new, nd, hn, r⟩ := p₁
        have T₁ := T.keeps k
        have rl := evs_rep T.st hn r
        refine ⟨⟨T₁.h0 _ _ ho, hfd⟩, wpAny_mono (spec A s₁ vs _ _ T.a T₁.h0 (T₁.xok _) rl) (fun v s₂ p₂ => .plain (Keeps.trans' k p₂.1) rfl rfl ?_) fun _ _ q => q⟩
        rw [show reach (.call f (ey :: es)) = reachs (ey :: es) by rw [reach]]
        exact p₂.2
  · cases h

/-- the argument of a call of a built-in -/
theorem arg1 {A : Around} {E : Value → Shared → Prop} {s : Shared} {env : Env} {x : Str} {p pos : Pos} {y : Expr} {a : CE} {fv : Value} {base : Heap} {X₀ : Addr → Prop} {Δ : List Own} {own : Owned} {V : Str → Option Value} {ds : List D} {d : D} {Q : Value → Shared → Prop}
    (GL : Glo w h₀ mg mb c.gl G) (T : Sit w h₀ lv c A env base X₀ Δ own V ds s) (hx : c.glob x = true) (hv : (x, fv) ∈ biTable) (hy : chkE c y a = true) (ha : EvalOK prog w h₀ G K lv c y a) (hd : defd Δ a = true) (he : evalC G K a ds = some d)
    (h : ∀ v s₁, EvalPost w X₀ env own Δ a d s v s₁ → wpAny (model prog w) A (call fv [v]) Q E s₁) : wpAny (model prog w) A (eval (.Call (.Name x p) [y] [] pos) env) Q E s := by
  refine PyProof.Rows.Call_Name1 (load_builtin GL T hx hv ?_) (star_of hy)
  have hb := bi_kind hv
  rcases hb with ⟨id, rfl⟩ | ⟨t, rfl⟩
  · exact Calls.callWith_builtin rfl (Calls.evalArgs_plain (Calls.spliced_cons (wpAny_mono (ha T hd he) (fun v s₁ p₁ => Calls.spliced_nil (h v s₁ p₁)) fun _ _ q => q)))
  · exact PyProof.Rows.callWith_type rfl (Calls.evalArgs_plain (Calls.spliced_cons (wpAny_mono (ha T hd he) (fun v s₁ p₁ => Calls.spliced_nil (h v s₁ p₁)) fun _ _ q => q)))
theorem arg2 {A : Around} {E : Value → Shared → Prop} {s : Shared} {env : Env} {x : Str} {p pos : Pos} {y z : Expr} {a b : CE} {fv : Value} {base : Heap} {X₀ : Addr → Prop} {Δ : List Own} {own : Owned} {V : Str → Option Value} {ds : List D} {d d' : D} {Q : Value → Shared → Prop}
    (GL : Glo w h₀ mg mb c.gl G) (T : Sit w h₀ lv c A env base X₀ Δ own V ds s) (hx : c.glob x = true) (hv : (x, fv) ∈ biTable) (hy : chkE c y a = true) (hz : chkE c z b = true) (ha : EvalOK prog w h₀ G K lv c y a) (hb : EvalOK prog w h₀ G K lv c z b)
    (hd : defd Δ a = true) (hd' : defd Δ b = true) (he : evalC G K a ds = some d) (he' : evalC G K b ds = some d')
    (h : ∀ v s₁ v' s₂, EvalPost w X₀ env own Δ a d s v s₁ → EvalPost w X₀ env own Δ b d' s₁ v' s₂ → wpAny (model prog w) A (call fv [v, v']) Q E s₂) : wpAny (model prog w) A (eval (.Call (.Name x p) [y, z] [] pos) env) Q E s := by
  refine PyProof.Rows.Call_Name2 (load_builtin GL T hx hv ?_) (by rw [star_of hy, star_of hz]; rfl)
  have hb' := bi_kind hv
  rcases hb' with ⟨id, rfl⟩ | ⟨t, rfl⟩
  · exact Calls.callWith_builtin rfl (Calls.evalArgs_plain (Calls.spliced_cons (wpAny_mono (ha T hd he) (fun v s₁ p₁ => Calls.spliced_cons (wpAny_mono (hb (T.keeps p₁.keeps) hd' he') (fun v' s₂ p₂ => Calls.spliced_nil (h v s₁ v' s₂ p₁ p₂)) fun _ _ q => q)) fun _ _ q => q)))
  · exact PyProof.Rows.callWith_type rfl (Calls.evalArgs_plain (Calls.spliced_cons (wpAny_mono (ha T hd he) (fun v s₁ p₁ => Calls.spliced_cons (wpAny_mono (hb (T.keeps p₁.keeps) hd' he') (fun v' s₂ p₂ => Calls.spliced_nil (h v s₁ v' s₂ p₁ p₂)) fun _ _ q => q)) fun _ _ q => q)))
end
end Mine

namespace Mine
open PySem

noncomputable def owners : List String := ["enumerate", "zip", "dict_itemiterator", "dict_reverseitemiterator", "odict_iterator", "itertools.zip_longest", "itertools.pairwise"]
noncomputable def Calm (h : Heap) (a : Addr) : Prop := ∃ o T, h.get? a = some o ∧ o.cls = .type T ∧ owners.contains T = false
theorem Calm.alloc {h : Heap} {a : Addr} (c : Calm h a) : Alloc h a := let ⟨o, _, e, _⟩ := c; ⟨o, e⟩
/-- an iterator over data -/
inductive IterPost (prog : Program) (w : World) (X Xe : Addr → Prop) (items : List D) (s : Shared) (it : Value) (s₂ : Shared) : Prop
  | mk (hz : items.length ≤ LIM) (I : Addr) (fp : List Addr) (P : Nat → Value → Prop) (St : Nat → Heap → Prop) (e : it = .ref I) (W : ∀ A : Around, A.handled = none → Walks prog w A I fp [I] items.length P St) (hst : St 0 s₂.heap) (k : Keeps s s₂) (hI : s.heap.get? I = none) (aI : Alloc s₂.heap I)
    (hfp : ∀ b ∈ fp, b = I ∨ (¬ X b ∧ Alloc s₂.heap b)) (hAl : ∀ i h, St i h → Calm h I) (hP : ∀ i v, P i v → ∃ d, items[i]? = some d ∧ Rep w s₂.heap (fun b => Xe b ∨ b = I) d v) : IterPost prog w X Xe items s it s₂

section
variable {prog : Program} {w : World} {A : Around} {E : Value → Shared → Prop} {s : Shared} {X Xe : Addr → Prop}

theorem plain_eq {h : Heap} {a : Addr} {vs ws : Array Value} (x : h.PlainList a vs) (y : h.PlainList a ws) : vs = ws := by
  obtain ⟨n, e⟩ := x
  obtain ⟨m, e'⟩ := y
  rw [e] at e'
  injection e' with q
  injection q with _ _ q
  injection q

theorem iter_data {x : D} {v : Value} {items : List D} (hi : itemsOf x = some items) (rx : Rep w s.heap X x v) (ri : Items w s.heap Xe x v) : wpAny (model prog w) A (pyIter v) (IterPost prog w X Xe items s) E s := by
  unfold itemsOf at hi
  split at hi
  · cases hi
    rw [Rep] at rx
    obtain ⟨a, vs, rfl, nx, hz, hl, _⟩ := rx
    obtain ⟨a', vs', e, _, hl', rl⟩ := ri
    cases e
    obtain rfl := plain_eq hl hl'
    have hlen := rl.length
    rw [Array.length_toList] at hlen
    have al : Alloc s.heap a := let ⟨n, e⟩ := hl; ⟨_, e⟩
    have hne : a ≠ s.heap.objs.size := fun e => not_alloc none_at (e ▸ al)
    refine wpAny_pyIter_list hl.isList ⟨hz, _, [s.heap.objs.size, a], (fun i v => vs[i]? = some v), (fun i h => h.IsListIter s.heap.objs.size a i ∧ h.IsList a vs), rfl, fun A hA => ?_, ⟨⟨_, Heap.get?_push_size _ rfl, rfl, rfl⟩, (plain_grow (push_grow _ _) hl).isList⟩, ⟨_, _, rfl, push_grow _ _⟩, none_at, ⟨_, Heap.get?_push_size _ rfl⟩, fun b hb => ?_, (fun i h ⟨⟨o, e, hc, _⟩, _⟩ => ⟨o, _, e, hc, by decide⟩), fun i v hv => ?_⟩
    · rw [← hlen]
      exact Walks.list hA _ a hne vs
    · rcases List.mem_cons.mp hb with rfl | hb
      · exact .inl rfl
      · rw [List.mem_singleton] at hb; subst hb
        exact .inr ⟨nx, al.grow (push_grow _ _)⟩
    · obtain ⟨d, hd, r⟩ := rl.get' (by rw [Array.getElem?_toList]; exact hv)
      exact ⟨d, hd, r.mono ((push_grow _ _).but _) fun b o ho q => q.elim id fun e => by rw [e, none_at] at ho; cases ho⟩
  · cases hi
    have ri' : Rep w s.heap Xe (.tuple _) v := ri
    rw [Rep] at rx ri'
    obtain ⟨a, vs, rfl, nx, hz, hl, _⟩ := rx
    obtain ⟨a', vs', e, _, _, hl', rl⟩ := ri'
    cases e
    have e : vs = vs' := by
      obtain ⟨n, e⟩ := hl
      obtain ⟨m, e'⟩ := hl'
      rw [e] at e'
      injection e' with q
      injection q with _ _ q
      injection q
    subst e
    have hlen := rl.length
    rw [Array.length_toList] at hlen
    have al : Alloc s.heap a := let ⟨n, e⟩ := hl; ⟨_, e⟩
    have hne : a ≠ s.heap.objs.size := fun e => not_alloc none_at (e ▸ al)
    refine wpAny_pyIter_tuple hl.isTuple ⟨hz, _, [s.heap.objs.size, a], (fun i v => vs[i]? = some v), (fun i h => h.IsTupleIter s.heap.objs.size a i ∧ h.IsTuple a vs), rfl, fun A hA => ?_, ⟨⟨_, Heap.get?_push_size _ rfl, rfl, rfl⟩, (PTup.grow (push_grow _ _) hl).isTuple⟩, ⟨_, _, rfl, push_grow _ _⟩, none_at, ⟨_, Heap.get?_push_size _ rfl⟩, fun b hb => ?_, (fun i h ⟨⟨o, e, hc, _⟩, _⟩ => ⟨o, _, e, hc, by decide⟩), fun i v hv => ?_⟩
    · rw [← hlen]
      exact Walks.tuple hA _ a hne vs
    · rcases List.mem_cons.mp hb with rfl | hb
      · exact .inl rfl
      · rw [List.mem_singleton] at hb; subst hb
        exact .inr ⟨nx, al.grow (push_grow _ _)⟩
    · obtain ⟨d, hd, r⟩ := rl.get' (by rw [Array.getElem?_toList]; exact hv)
      exact ⟨d, hd, r.mono ((push_grow _ _).but _) fun b o ho q => q.elim id fun e => by rw [e, none_at] at ho; cases ho⟩
  · cases hi
    rename_i t
    rw [Rep] at rx
    obtain ⟨hz, hc, u, rfl⟩ := rx
    have items : ∀ i v, SignAt (SS t) i v → ∃ d, (t.map fun c => D.str [c])[i]? = some d ∧ ∀ h X, Rep w h X d v := fun i v hv => by
      obtain ⟨c, u', hc', rfl⟩ := hv
      have hc' : t[i]? = some c := by simpa [SS] using hc'
      refine ⟨.str [c], by simp [hc'], fun h X => ?_⟩
      rw [Rep]
      exact ⟨by simp [LIM], by simpa using hc c (List.mem_of_getElem? hc'), u', rfl⟩
    have hlen : (SS t).cps.size = (t.map fun c => D.str [c]).length := by simp [SS]
    cases ha : (SS t).cps.all (· < 128)
    · exact wpAny_pyIter_wide ha ⟨by simpa using hz, _, [s.heap.objs.size], SignAt (SS t), (fun i h => h.IsStrIter s.heap.objs.size "str_iterator" (SS t) u i), rfl, (fun A hA => hlen ▸ Walks.strWide hA _ (SS t) u), ⟨_, Heap.get?_push_size _ rfl, rfl, rfl⟩, ⟨_, _, rfl, push_grow _ _⟩, none_at, ⟨_, Heap.get?_push_size _ rfl⟩, (fun b hb => .inl (List.mem_singleton.mp hb)), (fun i h ⟨o, e, hc, _⟩ => ⟨o, _, e, hc, by decide⟩), fun i v hv => let ⟨d, e, r⟩ := items i v hv; ⟨d, e, r _ _⟩⟩
    · exact wpAny_pyIter_ascii ha ⟨by simpa using hz, _, [s.heap.objs.size], SignAt (SS t), (fun i h => h.IsStrIter s.heap.objs.size "str_ascii_iterator" (SS t) u i), rfl, (fun A hA => hlen ▸ Walks.strAscii hA _ (SS t) u), ⟨_, Heap.get?_push_size _ rfl, rfl, rfl⟩, ⟨_, _, rfl, push_grow _ _⟩, none_at, ⟨_, Heap.get?_push_size _ rfl⟩, (fun b hb => .inl (List.mem_singleton.mp hb)), (fun i h ⟨o, e, hc, _⟩ => ⟨o, _, e, hc, by decide⟩), fun i v hv => let ⟨d, e, r⟩ := items i v hv; ⟨d, e, r _ _⟩⟩
  · cases hi

theorem iter_range {r : Addr} {a b st : Int} {n : Nat} {t u v : Tok} {items : List D} (hr : IsRange s.heap r a b st t u v) (hs : Builtin.Range.small a b st = true) (hn : Builtin.Range.rangeSize a b st = (n : Int)) (hl : items.length = n) (hz : n ≤ LIM)
    (hi : ∀ i, i < n → items[i]? = some (.int (a + i * st))) : wpAny (model prog w) A (pyIter (.ref r)) (IterPost prog w X Xe items s) E s := by
  refine wpAny_pyIter_range hr hs ⟨by rw [hl]; exact hz, _, [s.heap.objs.size], _, _, rfl, fun A hA => (by rw [hl]; exact (Walks.range hA _ a st n).bound), ?_, ⟨_, _, rfl, push_grow _ _⟩, none_at, ⟨_, Heap.get?_push_size _ rfl⟩, fun b hb => .inl (List.mem_singleton.mp hb), (fun i h e => ⟨_, _, e, rfl, by decide⟩), fun i v hv => ?_⟩
  · show IsRangeIter _ _ _ _ _
    rw [hn]; simpa using Heap.get?_push_size _ rfl
  · obtain ⟨hin, t, rfl⟩ := hv
    exact ⟨_, hi i hin, by rw [Rep]; exact ⟨_, rfl⟩⟩

theorem IterPost.older {items : List D} {s s₁ s₂ : Shared} {it : Value} (k : Keeps s s₁) (p : IterPost prog w X Xe items s₁ it s₂) : IterPost prog w X Xe items s it s₂ := by
  obtain ⟨hz, I, fp, P, St, e, W, hst, k₂, hI, aI, hfp, hAl, hP⟩ := p
  exact ⟨hz, I, fp, P, St, e, W, hst, Keeps.trans' k k₂, none_of_grow (Keeps.grow k) hI, aI, hfp, hAl, hP⟩
end
end Mine

namespace Mine
open PySem

noncomputable def fn1Val : Fn1 → Value
  | .len => .builtin "len"
  | .ord => .builtin "ord"
  | .all => .builtin "all"
  | .tuple => .type "tuple"
  | .list => .type "list"
  | .int => .type "int"
  | .str => .type "str"
  | .sum => .builtin "sum"
  | .min1 => .builtin "min"
  | .sorted => .builtin "sorted"
  | .listRev => .type "list"
theorem fn1_tab (f : Fn1) : (fn1Name f, fn1Val f) ∈ biTable := by
  cases f
  · exact List.mem_of_getElem? (i := 0) rfl
  · exact List.mem_of_getElem? (i := 1) rfl
  · exact List.mem_of_getElem? (i := 2) rfl
  · exact List.mem_of_getElem? (i := 3) rfl
  · exact List.mem_of_getElem? (i := 4) rfl
  · exact List.mem_of_getElem? (i := 5) rfl
  · exact List.mem_of_getElem? (i := 6) rfl
  · exact List.mem_of_getElem? (i := 8) rfl
  · exact List.mem_of_getElem? (i := 9) rfl
  · exact List.mem_of_getElem? (i := 11) rfl
  · exact List.mem_of_getElem? (i := 4) rfl


section
variable {prog : Program} {w : World} {A : Around} {E : Value → Shared → Prop} {s : Shared} {X X' : Addr → Prop}

theorem mapO_asB : ∀ {xs : List D} {bs : List Bool}, mapO asB xs = some bs → xs = bs.map .bool
  | [], _, h => by rw [mapO] at h; cases h; rfl
  | x :: xs, _, h => by
    rw [mapO] at h
    obtain ⟨b, hb, h⟩ := bindI h
    obtain ⟨bs, hbs, rfl⟩ := mapI h
    unfold asB at hb
    split at hb
    · cases hb
      simp [mapO_asB hbs]
    · cases hb

theorem range_all (bs : List Bool) : ((List.range bs.length).all fun i => (bs[i]?).getD true) = bs.all id := by
  rw [Bool.eq_iff_iff, List.all_eq_true, List.all_eq_true]
  constructor
  · intro h b hb
    obtain ⟨i, hi, rfl⟩ := List.getElem_of_mem hb
    have := h i (List.mem_range.mpr hi)
    simpa [hi] using this
  · intro h i hi
    have hi := List.mem_range.mp hi
    have := h (bs[i]) (List.getElem_mem hi)
    simpa [hi] using this

theorem list_new {h' : Heap} {vs : Array Value} {ds : List D} (hz : ds.length ≤ LIM) (g : Grow s.heap h') (hl : h'.PlainList s.heap.objs.size vs) (r : RepL w s.heap X ds vs.toList) : OpPost w s X (.list ds) (.ref s.heap.objs.size) { s with heap := h' } :=
  ⟨⟨_, _, rfl, g⟩, New1.list g none_at hz hl r⟩

theorem fn1_sound {f : Fn1} {x d : D} {v : Value} (hf : f ≠ .listRev) (a : A.handled = none) (e : fn1 f x = some d) (rx : Rep w s.heap X' x v) (ri : Items w s.heap X x v) (hX : ∀ a, X a → Alloc s.heap a) :
    wpAny (model prog w) A (call (fn1Val f) [v]) (OpPost w s X d) E s := by
  have hL : LIM = 16777216 := rfl
  unfold fn1 at e
  split at e
  · cases e
    rw [Rep] at rx
    obtain ⟨hz, _, t, rfl⟩ := rx
    refine PyProof.Rows.len_str (by rw [SS_length]; omega) ?_
    rw [SS_length]; exact OpPost.int
  · cases e
    rw [Rep] at rx
    obtain ⟨b, vs, rfl, _, hz, hl, rl⟩ := rx
    have := rl.length
    rw [Array.length_toList] at this
    refine PyProof.Rows.len_list hl.isList (by omega) ?_
    rw [this]; exact OpPost.int
  · cases e
    rw [Rep] at rx
    obtain ⟨b, vs, rfl, _, hz, hl, rl⟩ := rx
    have := rl.length
    rw [Array.length_toList] at this
    refine PyProof.Rows.len_tuple hl.isTuple (by omega) ?_
    rw [this]; exact OpPost.int
  · cases e
    rename_i c
    rw [Rep] at rx
    obtain ⟨hz, _, t, rfl⟩ := rx
    exact P.ord_of_char OpPost.int
  · rename_i xs
    obtain ⟨bs, hb, rfl⟩ := mapI e
    have hxs := mapO_asB hb
    subst hxs
    refine call_all_walk (wpAny_mono (iter_data (X := X') (Xe := X') rfl rx rx.items) (fun it s₂ p => ?_) fun _ _ q => q)
    obtain ⟨_, I, fp, P, St, rfl, W, hst, k, hI, aI, hfp, hAl, hP⟩ := p
    refine ⟨I, fp, [I], _, P, St, fun i => (bs[i]?).getD true, rfl, W _ a, hst, ?_, fun h' tk hk => ?_⟩
    · intro i v s Q E hv hq
      obtain ⟨d, hd, r⟩ := hP i v hv
      rw [List.getElem?_map] at hd
      obtain ⟨b, hb, rfl⟩ := mapI hd
      rw [Rep] at r
      subst r
      dsimp only at hq
      rw [hb] at hq
      exact wpAny_truthy_bool hq
    · rw [List.length_map, range_all]
      obtain ⟨h₂, tk₂, rfl, k₂⟩ := k
      exact ⟨⟨h', tk, rfl, fun b o e => hk b o (fun q => by rw [List.mem_singleton] at q; rw [q, hI] at e; cases e) (k₂ b o e)⟩, by show Rep _ _ _ _ _; rw [Rep]⟩
  · cases e
    obtain ⟨b, vs, rfl, hz, hl, rl⟩ := ri
    have := rl.length
    rw [Array.length_toList] at this
    refine call_tuple_list hl.isList (fun h' hk => ?_) (by rw [← lim_line]; omega)
    have g : Grow s.heap (h'.push { cls := .type "tuple", data := .seq vs }) := fun b o e => push_grow _ _ _ _ (hk b o e)
    refine ⟨⟨_, _, rfl, g⟩, Rep.mkTuple g (fun q => ?_) hz ⟨_, Heap.get?_push_size _ rfl⟩ rl⟩
    obtain ⟨o, ho⟩ := hX _ q
    exact not_alloc none_at ⟨o, hk _ _ ho⟩
  · cases e
    have ri' : Rep w s.heap X (.tuple _) v := ri
    have ri'' := ri'
    rw [Rep] at ri''
    obtain ⟨b, vs, rfl, _, hz, hl, rl⟩ := ri''
    exact call_tuple_same hl.isTuple ⟨Keeps.refl' _, ri'⟩
  · cases e
    obtain ⟨b, vs, rfl, hz, ⟨n, hl⟩, rl⟩ := ri
    have := rl.length
    rw [Array.length_toList] at this
    exact call_list_seq b (.inl rfl) hl rfl rfl (fun h' c' hk hn => list_new hz hk ⟨_, hn⟩ rl) (by rw [← lim_line]; omega)
  · cases e
    have ri' : Rep w s.heap X (.tuple _) v := ri
    rw [Rep] at ri'
    obtain ⟨b, vs, rfl, _, hz, ⟨n, hl⟩, rl⟩ := ri'
    have := rl.length
    rw [Array.length_toList] at this
    exact call_list_seq b (.inr rfl) hl rfl rfl (fun h' c' hk hn => list_new hz hk ⟨_, hn⟩ rl) (by rw [← lim_line]; omega)
  · cases e
    rw [Rep] at rx
    subst rx
    exact call_int_bool OpPost.int
  · exact absurd rfl hf
  · cases e

theorem strsOf_map : ∀ {xs : List D} {l : List (List Nat)}, strsOf xs = some l → xs = l.map .str
  | [], _, h => by rw [strsOf] at h; cases h; rfl
  | .str x :: xs, _, h => by
    rw [strsOf] at h
    obtain ⟨bs, hbs, rfl⟩ := mapI h
    simp [strsOf_map hbs]
  | .none :: _, _, h => by cases h
  | .bool _ :: _, _, h => by cases h
  | .int _ :: _, _, h => by cases h
  | .list _ :: _, _, h => by cases h
  | .tuple _ :: _, _, h => by cases h

theorem strs_values {h : Heap} : ∀ {l : List (List Nat)} {vs : List Value}, RepL w h X (l.map .str) vs → ∃ ts : List (Str × Tok), vs = strValues ts ∧ ts.map (·.1) = l.map SS
  | [], _, r => by rw [List.map_nil, RepL] at r; subst r; exact ⟨[], rfl, rfl⟩
  | x :: l, _, r => by
    rw [List.map_cons, RepL] at r
    obtain ⟨v, vs', rfl, r1, r2⟩ := r
    rw [Rep] at r1
    obtain ⟨_, _, t, rfl⟩ := r1
    obtain ⟨ts, rfl, e⟩ := strs_values r2
    exact ⟨(SS x, t) :: ts, rfl, by simp [e]⟩
end
end Mine

namespace Mine
open PySem

noncomputable def isAtom : D → Bool
  | .none => true
  | .bool _ => true
  | .int _ => true
  | .str _ => true
  | _ => false
theorem Rep.atom {w : World} {h h' : Heap} {X X' : Addr → Prop} {d : D} {v : Value} (a : isAtom d = true) (r : Rep w h X d v) : Rep w h' X' d v := by
  cases d <;> first | (simpa [Rep] using r) | cases a

section
variable {prog : Program} {w : World} {h₀ : Heap} {G : List D} {K : Oracle} {lv : Nat} {c : Ctx} {mg mb : Str → Option Value}

theorem ty_tab (t : Ty) : (tyName t, Value.type (tyStr t)) ∈ biTable := by
  cases t
  · exact List.mem_of_getElem? (i := 6) rfl
  · exact List.mem_of_getElem? (i := 4) rfl
  · exact List.mem_of_getElem? (i := 3) rfl
  · exact List.mem_of_getElem? (i := 5) rfl
  · exact List.mem_of_getElem? (i := 7) rfl
theorem ev_isinst {e : Expr} {t : Ty} {a : CE} (GL : Glo w h₀ mg mb c.gl G) (ha : ∀ x, chkE c x a = true → EvalOK prog w h₀ G K lv c x a) (h : chkE c e (.isinst a t) = true) : EvalOK prog w h₀ G K lv c e (.isinst a t) := by
  unfold chkE at h
  split at h
  · rename_i x y z hco
    simp only [Bool.and_eq_true, beq_iff_eq] at h
    obtain ⟨⟨⟨rfl, h2⟩, h3⟩, h4⟩ := h
    obtain ⟨p, q, rfl⟩ := callOf_eq hco
    unfold isName at h3
    split at h3
    · rename_i z' pz
      simp only [Bool.and_eq_true, beq_iff_eq] at h3
      obtain ⟨rfl, h5⟩ := h3
      intro A E s env base X₀ Δ own V ds d T hd he
      rw [evalC] at he
      rw [defd] at hd
      obtain ⟨dx, hx, rfl⟩ := mapI he
      refine PyProof.Rows.Call_Name2 (load_builtin GL T h2 (v := .builtin "isinstance") (List.mem_of_getElem? (i := 14) rfl) ?_) (by rw [star_of h4]; rfl)
      refine Calls.callWith_builtin rfl (Calls.evalArgs_plain (Calls.spliced_cons (wpAny_mono (ha y h4 T hd hx) (fun v s₁ p₁ => Calls.spliced_cons ?_) fun _ _ q => q)))
      refine load_builtin GL (T.keeps p₁.keeps) h5 (v := .type (tyStr t)) (ty_tab t) (Calls.spliced_nil ?_)
      refine wpAny_mono (isinst_sound (t := t) (p₁.rep T.st)) (fun v s₂ p₂ => ?_) fun _ _ q => q
      obtain ⟨rfl, k⟩ := p₂
      exact .plain (Keeps.trans' p₁.keeps k) rfl rfl (by rw [Rep])
    · cases h3
  · cases h

theorem fn1_atom {f : Fn1} {x d : D} (h1 : f ≠ .tuple) (h2 : f ≠ .list) (h3 : f ≠ .sorted) (h4 : f ≠ .listRev) (e : fn1 f x = some d) : isAtom d = true := by
  unfold fn1 at e
  split at e <;> first
    | (cases e; rfl)
    | (exact absurd rfl h1)
    | (exact absurd rfl h2)
    | (exact absurd rfl h3)
    | (exact absurd rfl h4)
    | (split at e <;> cases e; rfl)
    | (obtain ⟨_, _, rfl⟩ := mapI e; rfl)
    | (obtain ⟨_, _, e⟩ := bindI e; split at e <;> cases e; rfl)
    | (cases e; done)

theorem ev_fn1 {e : Expr} {f : Fn1} {a : CE} (GL : Glo w h₀ mg mb c.gl G) (hf : f ≠ .listRev) (ha : ∀ x, chkE c x a = true → EvalOK prog w h₀ G K lv c x a) (h : chkE c e (.fn1 f a) = true) : EvalOK prog w h₀ G K lv c e (.fn1 f a) := by
  have h' : (match callOf e with | some (x, [y]) => x == fn1Name f && c.glob x && chkE c y a | _ => false) = true := by
    unfold chkE at h
    cases f <;> first | exact absurd rfl hf | exact h
  split at h'
  · rename_i x y hco
    simp only [Bool.and_eq_true, beq_iff_eq] at h'
    obtain ⟨⟨rfl, h2⟩, h3⟩ := h'
    obtain ⟨p, q, rfl⟩ := callOf_eq hco
    intro A E s env base X₀ Δ own V ds d T hd he
    rw [evalC] at he
    rw [defd] at hd
    obtain ⟨dx, hx, he⟩ := bindI he
    refine arg1 GL T h2 (fn1_tab f) h3 (ha y h3) hd hx fun v s₁ p₁ => ?_
    have T₁ := T.keeps p₁.keeps
    refine wpAny_mono (fn1_sound hf T.a.handled he (p₁.rep T.st) (p₁.items T.st) fun a q => (T₁.xok _ a q).1) (fun v s₂ p₂ => ?_) fun _ _ q => q
    obtain ⟨k, r⟩ := p₂
    have kk := Keeps.trans' p₁.keeps k
    have rr := r.rep fun a q => (T₁.xok _ a q).1
    by_cases h1 : f = .tuple
    · subst h1
      refine .plain kk rfl rfl ?_
      rw [show reach (.fn1 .tuple a) = elems a by rw [reach]; rfl]; exact rr
    · by_cases h2 : f = .list
      · subst h2
        refine .new1 kk rfl rfl (New1.older (Keeps.grow p₁.keeps) ?_)
        rw [show reach (.fn1 .list a) = elems a by rw [reach]; rfl]; exact r
      · by_cases h3 : f = .sorted
        · subst h3
          refine .new1 kk rfl rfl (New1.older (Keeps.grow p₁.keeps) ?_)
          rw [show reach (.fn1 .sorted a) = elems a by rw [reach]; rfl]; exact r
        · exact .plain kk rfl (by cases f <;> first | rfl | contradiction) (Rep.atom (fn1_atom h1 h2 h3 hf he) rr)
  · cases h'

theorem joinL_cons (s x y : List Nat) (r : List (List Nat)) : joinL s (x :: y :: r) = x ++ (s ++ joinL s (y :: r)) := by
  rw [joinL]; intro q; cases q
theorem join_SS (s : List Nat) : ∀ l : List (List Nat), Str.join (SS s) (l.map SS) = SS (joinL s l)
  | [] => rfl
  | [x] => rfl
  | x :: y :: r => by
    have ih := join_SS s (y :: r)
    rw [joinL_cons, ← SS_append, ← SS_append, ← ih]
    show Str.join (SS s) (SS x :: SS y :: r.map SS) = SS x ++ (SS s ++ Str.join (SS s) (SS y :: r.map SS))
    rw [Str.join]
    · generalize Str.join (SS s) (SS y :: List.map SS r) = t
      obtain ⟨t⟩ := t
      show Str.mk ((x.toArray ++ s.toArray) ++ t) = Str.mk (x.toArray ++ (s.toArray ++ t))
      rw [Array.append_assoc]
    · intro q; cases q

theorem join_fold (s : List Nat) (l : List (List Nat)) (n : Nat) : (l.map SS).toArray.foldl (· + ·.length + (SS s).length) n = l.foldl (fun n t => n + t.length + s.length) n := by
  rw [List.foldl_toArray, List.foldl_map]
  simp only [SS_length]

theorem foldl_ge (s : List Nat) : ∀ (l : List (List Nat)) (n : Nat), l.foldl (fun n t => n + t.length + s.length) n = n + l.foldl (fun n t => n + t.length + s.length) 0
  | [], n => by simp
  | x :: l, n => by
    rw [List.foldl_cons, List.foldl_cons, foldl_ge s l, foldl_ge s l (0 + x.length + s.length)]
    omega

theorem joinL_le (s : List Nat) : ∀ l : List (List Nat), (joinL s l).length ≤ l.foldl (fun n t => n + t.length + s.length) 0
  | [] => by simp [joinL]
  | [x] => by simp [joinL]
  | x :: y :: r => by
    have ih := joinL_le s (y :: r)
    rw [joinL, List.foldl_cons, foldl_ge, List.length_append, List.length_append]
    · omega
    · intro q; cases q
theorem joinL_mem (s : List Nat) : ∀ (l : List (List Nat)) (c : Nat), c ∈ joinL s l → c ∈ s ∨ ∃ t ∈ l, c ∈ t
  | [], c, h => by simp [joinL] at h
  | [x], c, h => .inr ⟨x, by simp, by simpa [joinL] using h⟩
  | x :: y :: r, c, h => by
    rw [joinL] at h
    · rcases List.mem_append.mp h with h | h
      · exact .inr ⟨x, by simp, h⟩
      · rcases List.mem_append.mp h with h | h
        · exact .inl h
        · rcases joinL_mem s (y :: r) c h with h | ⟨t, ht, h⟩
          · exact .inl h
          · exact .inr ⟨t, List.mem_cons_of_mem _ ht, h⟩
    · intro q; cases q

theorem ev_fn2 {e : Expr} {f : Fn2} {a b : CE} (GL : Glo w h₀ mg mb c.gl G) (ha : ∀ x, chkE c x a = true → EvalOK prog w h₀ G K lv c x a) (hb : ∀ x, chkE c x b = true → EvalOK prog w h₀ G K lv c x b) (h : chkE c e (.fn2 f a b) = true) : EvalOK prog w h₀ G K lv c e (.fn2 f a b) := by
  unfold chkE at h
  cases f with
  | min =>
    dsimp only at h
    split at h
    · rename_i x y z hco
      simp only [Bool.and_eq_true, beq_iff_eq] at h
      obtain ⟨⟨⟨rfl, h2⟩, h3⟩, h4⟩ := h
      obtain ⟨p, q, rfl⟩ := callOf_eq hco
      intro A E s env base X₀ Δ own V ds d T hd he
      rw [evalC] at he
      rw [defd] at hd
      simp only [Bool.and_eq_true] at hd
      obtain ⟨dx, hx, he⟩ := bindI he
      obtain ⟨dy, hy, he⟩ := bindI he
      unfold fn2 at he
      split at he <;> first | cases he | skip
      · refine arg2 GL T h2 (fv := .builtin "min") (List.mem_of_getElem? (i := 9) rfl) h3 h4 (ha y h3) (hb z h4) hd.1 hd.2 hx hy fun v s₁ v' s₂ p₁ p₂ => ?_
        have r₁ := p₁.rep T.st
        have r₂ := p₂.rep (T.keeps p₁.keeps).st
        rw [Rep] at r₁ r₂
        obtain ⟨t, rfl⟩ := r₁
        obtain ⟨u, rfl⟩ := r₂
        refine min_two_ints T.a.handled fun h' tk hk => .plain (Keeps.trans' p₁.keeps (Keeps.trans' p₂.keeps ⟨_, _, rfl, hk⟩)) rfl rfl ?_
        rw [Rep]
        split <;> exact ⟨_, rfl⟩
      all_goals contradiction
    · cases h
  | join =>
    dsimp only at h
    split at h
    · rename_i o x y hco
      simp only [Bool.and_eq_true, beq_iff_eq] at h
      obtain ⟨⟨rfl, h3⟩, h4⟩ := h
      obtain ⟨p, q, rfl, hl, hbase⟩ := methOf_eq hco
      intro A E s env base X₀ Δ own V ds d T hd he
      rw [evalC] at he
      rw [defd] at hd
      simp only [Bool.and_eq_true] at hd
      obtain ⟨dx, hx, he⟩ := bindI he
      obtain ⟨dy, hy, he⟩ := bindI he
      have he' : ∃ s xs l, dx = .str s ∧ dy = .list xs ∧ strsOf xs = some l ∧ okLen (l.foldl (fun n t => n + t.length + s.length) 0) = true ∧ d = .str (joinL s l) := by
        cases dx with
        | str s =>
          cases dy with
          | list xs =>
            simp only [fn2] at he
            obtain ⟨l, hl, he⟩ := bindI he
            split at he
            · cases he
              exact ⟨s, xs, l, rfl, rfl, hl, by assumption, rfl⟩
            · cases he
          | _ => simp [fn2] at he
        | _ => simp [fn2] at he
      obtain ⟨s', xs, l, rfl, rfl, hl', hok, rfl⟩ := he'
      have hxs := strsOf_map hl'
      subst hxs
      refine Call_method1 (hbase env) (star_of h4) hl (wpAny_mono (ha o h3 T hd.1 hx) (fun v s₁ p₁ => ?_) fun _ _ q => q)
      have r₁ := p₁.rep T.st
      rw [Rep] at r₁
      obtain ⟨_, hc₁, t, rfl⟩ := r₁
      refine SB.join (wpAny_mono (hb y h4 (T.keeps p₁.keeps) hd.2 hy) (fun v s₂ p₂ => ?_) fun _ _ q => q)
      have r₂ := p₂.rep (T.keeps p₁.keeps).st
      rw [Rep] at r₂
      obtain ⟨a', vs, rfl, _, _, hpl, rl⟩ := r₂
      obtain ⟨ts, hts, hts'⟩ := strs_values rl
      have hvs : vs = (strValues ts).toArray := by rw [← hts]
      rw [okLen_iff] at hok
      refine ⟨a', ts, rfl, hvs ▸ hpl.isList, l.map SS, hts', ?_, fun t' k => .plain (Keeps.trans' p₁.keeps (Keeps.trans' p₂.keeps (Keeps.tok _ _))) rfl rfl ?_⟩
      · unfold JoinOk
        rw [join_fold]
        simp only [Builtin.Str.tooLong, Bool.not_eq_true', decide_eq_false_iff_not, ← lim_line]
        omega
      · rw [Rep]
        refine ⟨Nat.le_trans (joinL_le _ _) hok, fun c hc => ?_, t', ?_⟩
        · rcases joinL_mem _ _ _ hc with hc | ⟨t, ht, hc⟩
          · exact hc₁ c hc
          · obtain ⟨k, hk, rfl⟩ := List.getElem_of_mem ht
            obtain ⟨v, _, r⟩ := rl.get (k := k) (d := .str l[k]) (by simp [hk])
            rw [Rep] at r
            exact r.sm c hc
        · show Value.str (Builtin.Str.glued (SS s') (l.map SS)) t' = _
          rw [StrLaws.glued_eq_join, join_SS]
    · cases h

theorem Items.toP {h : Heap} {X : Addr → Prop} {x i d : D} {v : Value} (r : Items w h X x v) (e : indexOp x i = some d) : ItemsP w h (Rep w h X) x v := by
  cases x with
  | list ds => obtain ⟨a, vs, e, hz, hl, rl⟩ := r; exact ⟨a, vs, e, hz, hl, repL_all2.mp rl⟩
  | tuple ds =>
    have r' : Rep w h X (.tuple ds) v := r
    rw [Rep] at r'
    obtain ⟨a, vs, e, _, hz, hl, rl⟩ := r'; exact ⟨a, vs, e, hz, hl, repL_all2.mp rl⟩
  | str t =>
    have r' : Rep w h X (.str t) v := r
    refine ⟨r'.less fun _ q => q.elim, fun c hc u => ?_⟩
    rw [Rep] at r' ⊢
    exact ⟨by simp [LIM], by simpa using r'.sm c hc, _, rfl⟩
  | none => cases e
  | bool _ => cases e
  | int _ => cases e

theorem path_toP {h : Heap} {X : Addr → Prop} {N : Addr → Nat → Prop} {x i d : D} {v : Value} {l m : Nat} (r : OwnR w h X N m l x v) (e : indexOp x i = some d) : ∃ m', ItemsP w h (OwnR w h X N m' (l + 1)) x v := by
  cases m with
  | zero => exact ⟨0, Items.toP (Rep.items r) e⟩
  | succ m =>
    cases x with
    | list ds => obtain ⟨a, vs, e, _, hz, hl, rl⟩ := r; exact ⟨m, a, vs, e, hz, hl, rl⟩
    | tuple ds => exact ⟨0, Items.toP (x := .tuple ds) r e⟩
    | str t => exact ⟨0, Items.toP (x := .str t) r e⟩
    | none => cases e
    | bool _ => cases e
    | int _ => cases e

theorem bad_slice {a b d : Option Expr} {p : Pos} {ce : CE} : chkE c (.Slice a b d p) ce = false := by
  cases ce with
  | fn1 f a => cases f <;> rfl
  | fn2 f a b => cases f <;> rfl
  | _ => rfl
theorem not_slice {y : Expr} {i : CE} {o v : Value} (h : chkE c y i = true) : subscripted y false o v = operate [o, v] (getItem o v) ∧ ∀ a b d p, y ≠ .Slice a b d p := by
  cases y with
  | Slice a b d p => rw [bad_slice] at h; cases h
  | _ => exact ⟨rfl, fun _ _ _ _ q => by cases q⟩

theorem typed_of {h : Heap} {P : D → Value → Prop} {x : D} {v : Value} {s : Shared} (hs : s.heap = h) (r : ItemsP w h P x v) : ∃ T id, s.TypeIs v T ∧ typeLookup (.type T) "__getitem__" = pure (some (.builtin id)) := by
  subst hs
  cases x with
  | list ds => obtain ⟨a, vs, rfl, _, ⟨n, e⟩, _⟩ := r; exact ⟨"list", _, ⟨_, e, rfl⟩, slot_list_getitem.lookup⟩
  | tuple ds => obtain ⟨a, vs, rfl, _, ⟨n, e⟩, _⟩ := r; exact ⟨"tuple", _, ⟨_, e, rfl⟩, F.slot_tuple_getitem.lookup⟩
  | str t =>
    have r' := r.1
    rw [Rep] at r'
    obtain ⟨_, _, u, rfl⟩ := r'
    exact ⟨"str", _, typeIs_str _ _ _, F.slot_str_getitem.lookup⟩
  | none => exact r.elim
  | bool _ => exact r.elim
  | int _ => exact r.elim

theorem ev_index {e : Expr} {a i : CE} (ha : ∀ x, chkE c x a = true → EvalOK prog w h₀ G K lv c x a) (hi : ∀ x, chkE c x i = true → EvalOK prog w h₀ G K lv c x i) (h : chkE c e (.index a i) = true) : EvalOK prog w h₀ G K lv c e (.index a i) := by
  unfold chkE at h
  split at h
  · cases h
  · rename_i x y p _
    simp only [Bool.and_eq_true] at h
    intro A E s env base X₀ Δ own V ds d T hd he
    rw [evalC] at he
    rw [defd] at hd
    simp only [Bool.and_eq_true] at hd
    obtain ⟨dx, hx, he⟩ := bindI he
    obtain ⟨dy, hy, he⟩ := bindI he
    refine PyProof.Rows.Subscript_ (wpAny_mono (ha x h.1 T hd.1 hx) (fun vx s₁ p₁ => ?_) fun _ _ q => q)
    have T₁ := T.keeps p₁.keeps
    refine wpAny_mono (hi y h.2 T₁ hd.2 hy) (fun vy s₂ p₂ => ?_) fun _ _ q => q
    have T₂ := T₁.keeps p₂.keeps
    have g₂ := Keeps.grow p₂.keeps
    have kk := Keeps.trans' p₁.keeps p₂.keeps
    have it := ((p₁.items T.st).grow g₂).toP he
    obtain ⟨Ty, bid, ht, hlk⟩ := typed_of rfl it
    cases hr : root a with
    | none =>
      refine PyProof.Rows.tail_any ht hlk (wpAny_mono (index_sound he it (p₂.rep T₁.st)) (fun v s₃ p₃ => ?_) fun _ _ q => q) (not_slice h.2).1
      obtain ⟨⟨tk, rfl⟩, r⟩ := p₃
      refine .plain (Keeps.trans' kk (Keeps.tok _ _)) (by rw [root, hr]; rfl) rfl ?_
      rw [show reach (.index a i) = elems a by rw [reach]; rfl]
      exact r
    | some q =>
      obtain ⟨z, l⟩ := q
      obtain ⟨m, r₁⟩ := p₁.path z l hr
      have r₂ := OwnR.mono (X' := XR X₀ env own []) (N' := fun a j => (a, z, j) ∈ own) (g₂.but _) (fun _ _ _ q => q) (fun a l o q e => ⟨q, g₂ _ _ e⟩) _ l dx vx r₁
      obtain ⟨m', r₂⟩ := path_toP r₂ he
      refine PyProof.Rows.tail_any ht hlk (wpAny_mono (index_sound he r₂ (p₂.rep T₁.st)) (fun v s₃ p₃ => ?_) fun _ _ q => q) (not_slice h.2).1
      obtain ⟨⟨tk, rfl⟩, r⟩ := p₃
      refine ⟨Keeps.trans' kk (Keeps.tok _ _), ⟨[], List.nodup_nil, (fun _ q => nomatch q), ?_⟩, ?_⟩
      · rw [show fr (.index a i) = 0 from rfl, show reach (.index a i) = [(z, l + 1)] by rw [reach, hr]]
        exact Rep.less (path_rep T₂.st r) fun b q => q.elim id fun ⟨_, q⟩ => nomatch q
      · intro x' l' q
        rw [root, hr] at q
        cases q
        exact ⟨m', r⟩
  · cases h
end
end Mine

namespace Mine
open PySem
set_option maxRecDepth 100000

theorem owner_rev : Manifest.owners.lookup (String.ofList ['d', 'e', 's', 'r', 'e', 'v', 'e', 'r'].reverse) = some Manifest.sig_reversed := by kernel_rfl
theorem slot_rev_next : Slot "reversed" "__next__" "reversed.__next__" :=
  .of (owner := "reversed") (n := "__next__") (by rw [typeLookup_type, builtinLookup_eq_fast]; kernel_rfl) (by decide +kernel) (by decide +kernel) (by decide +kernel)
    (by first | exact .inl (by decide +kernel) | exact .inr (by decide +kernel)) (by rw [isSubtype_type]; kernel_rfl)
theorem slot_rev_iter : Slot "reversed" "__iter__" "reversed.__iter__" :=
  .of (owner := "reversed") (n := "__iter__") (by rw [typeLookup_type, builtinLookup_eq_fast]; kernel_rfl) (by decide +kernel) (by decide +kernel) (by decide +kernel)
    (by first | exact .inl (by decide +kernel) | exact .inr (by decide +kernel)) (by rw [isSubtype_type]; kernel_rfl)
theorem slot_rev_hint : Slot "reversed" "__length_hint__" "reversed.__length_hint__" :=
  .of (owner := "reversed") (n := "__length_hint__") (by rw [typeLookup_type, builtinLookup_eq_fast]; kernel_rfl) (by decide +kernel) (by decide +kernel) (by decide +kernel)
    (by first | exact .inl (by decide +kernel) | exact .inr (by decide +kernel)) (by rw [isSubtype_type]; kernel_rfl)
theorem slot_rev_init : Slot "reversed" "__init__" "object.__init__" :=
  .of (owner := "object") (n := "__init__") (by rw [typeLookup_type, builtinLookup_eq_fast]; kernel_rfl) (by decide +kernel) (by decide +kernel) (by decide +kernel)
    (by first | exact .inl (by decide +kernel) | exact .inr (by decide +kernel)) (by rw [isSubtype_type]; kernel_rfl)
theorem entry_rev_next : entryFor table "reversed.__next__" = some Builtin.«reversed.__next__» := entryFor_of_tree (by kernel_rfl)
theorem entry_rev_hint : entryFor table "reversed.__length_hint__" = some Builtin.«reversed.__length_hint__» := entryFor_of_tree (by kernel_rfl)
theorem entry_rev_iter : entryFor table "reversed.__iter__" = some Builtin.«dict_keyiterator.__iter__» :=
  entryFor_alias (id' := "dict_keyiterator.__iter__") (by kernel_rfl) (by first | rfl | decide +kernel | (unfold String.splitOn; simp +decide [String.splitOnAux])) (by decide +kernel) (by kernel_rfl)
theorem args_rev_next (a : Value) : argsOk "reversed.__next__" ⟨[a], []⟩ := by
  unfold argsOk; rw [signature?_of (id := "reversed.__next__") (n := ['_', '_', 't', 'x', 'e', 'n', '_', '_']) (o := ['d', 'e', 's', 'r', 'e', 'v', 'e', 'r']) (by kernel_rfl) owner_rev]; kernel_rfl
theorem args_rev_iter (a : Value) : argsOk "reversed.__iter__" ⟨[a], []⟩ := by
  unfold argsOk; rw [signature?_of (id := "reversed.__iter__") (n := ['_', '_', 'r', 'e', 't', 'i', '_', '_']) (o := ['d', 'e', 's', 'r', 'e', 'v', 'e', 'r']) (by kernel_rfl) owner_rev]; kernel_rfl
theorem args_rev_hint (a : Value) : argsOk "reversed.__length_hint__" ⟨[a], []⟩ := by
  unfold argsOk; rw [signature?_of (id := "reversed.__length_hint__") (n := "__length_hint__".toList.reverse) (o := ['d', 'e', 's', 'r', 'e', 'v', 'e', 'r']) (by kernel_rfl) owner_rev]; kernel_rfl
theorem mro_rev : mroOf (.type "reversed") = pure [.type "reversed", .type "object"] := by rw [mroOf_type]; kernel_rfl
theorem lookup_rev_new : typeLookup (.type "reversed") "__new__" = pure (some (.builtin "reversed.__new__")) := by rw [typeLookup_type, builtinLookup_eq_fast]; kernel_rfl
theorem called_rev : TypeCalled "reversed" "reversed.__new__" "object.__init__" :=
  ⟨by decide +kernel, by decide +kernel, ⟨_, _, mro_rev⟩, madeBy_type mro_rev lookup_rev_new (by decide +kernel), by decide +kernel, by rw [isSubtype_type]; kernel_rfl, slot_rev_init⟩
theorem typeCall_rev (a : Value) : checkTypeCall "reversed" ⟨[a], []⟩ = pure () := by kernel_rfl
theorem newCall_rev (a : Value) : checkBuiltinCall "reversed.__new__" ⟨[.type "reversed", a], []⟩ = pure () := by kernel_rfl
theorem entry_rev_new : entryFor table "reversed.__new__" = some Builtin.«reversed.__new__» := entryFor_of_tree (by kernel_rfl)
theorem sub_rev_self : isSubtype (.type "reversed") (.type "reversed") = pure true := by rw [isSubtype_type]; kernel_rfl
theorem newClass_rev (a : Value) : Builtin.SmallTypes.newClass "reversed" ⟨[.type "reversed", a], []⟩ = pure (.type "reversed", [a]) := by
  unfold Builtin.SmallTypes.newClass
  simp only [isType, sub_rev_self, pure_bind, Bool.not_true, Bool.false_eq_true, if_false]
theorem str_no_rev : typeLookup (.type "str") "__reversed__" = pure none := by rw [typeLookup_type, builtinLookup_eq_fast]; kernel_rfl
theorem str_no_dict : isSubtype (.type "str") (.type "dict") = pure false := by rw [isSubtype_type]; kernel_rfl

noncomputable def revObj (x : Str) (t : Tok) (i : Int) : Obj := { cls := .type "reversed", data := .fields #[.str x t, rawInt i] }

theorem meets_rev_new (x : Str) (t : Tok) (hx : (x.length : Int) < 2 ^ 63) :
    Meets (Builtin.«reversed.__new__» ⟨[.type "reversed", .str x t], []⟩) (fun _ R s => R (.ok (.ret (.ref s.heap.objs.size))) { s with heap := s.heap.push (revObj x t ((x.length : Int) - 1)), toks := s.toks + 1 + 1 }) := by
  refine Meets.of_wp fun prog w A R s hs => ?_
  unfold Builtin.«reversed.__new__»
  refine wpAny_bind (wpAny_of_eq (newClass_rev _) ?_)
  try dsimp only
  refine wpAny_bind (wpAny_of_eq (a := ()) (by first | rfl | kernel_rfl) ?_)
  refine wpAny_bind (wpAny_of_eq (a := ()) (by first | rfl | kernel_rfl) ?_)
  try dsimp only
  refine wpAny_bind (wpAny_specialOf (T := "str") (v := .str x t) rfl str_no_rev ?_)
  try dsimp only
  refine wpAny_bind ?_
  show wpAny _ _ (isInstance (Value.str x t) (.type "dict") >>= _) _ _ _
  refine wpAny_bind (wpAny_isInstance (T := "str") (v := .str x t) rfl str_no_dict ?_)
  show wpAny _ _ (specialOf (Value.str x t) (Str.ofString "__getitem__") >>= _) _ _ _
  refine wpAny_bind (wpAny_specialOf (T := "str") (v := .str x t) rfl F.slot_str_getitem.lookup ?_)
  try dsimp only
  refine wpAny_ite_split (fun _ => ?_) (fun hab => absurd (by decide) hab)
  refine wpAny_pure ?_
  refine wpAny_ite_split (fun hab => absurd hab (by decide)) (fun _ => ?_)
  refine wpAny_bind (P.len_str (by omega) ?_)
  refine wpAny_bind (m := asInt? _) (wpAny_pure ?_)
  try dsimp only
  refine wpAny_bind ?_
  show wpAny _ _ (newObj (.type "reversed") (.fields #[.str x t, rawInt ((x.length : Int) - 1)])) _ _ _
  exact wpAny_newObj_type (wpAny_pure ⟨_, rfl, hs⟩)

section
variable {prog : Program} {w : World} {A : Around} {E : Value → Shared → Prop} {s : Shared}
theorem call_rev_str {x : Str} {t : Tok} {Q : Value → Shared → Prop} (hx : (x.length : Int) < 2 ^ 63)
    (h : Q (.ref s.heap.objs.size) { s with heap := s.heap.push (revObj x t ((x.length : Int) - 1)), toks := s.toks + 1 + 1 }) : wpAny (model prog w) A (call (.type "reversed") [.str x t]) Q E s := by
  refine callType_new called_rev (by decide) (typeCall_rev _) (newCall_rev _) (fun obj => F.args_object_init_2 obj _) entry_rev_new (meets_rev_new x t hx) ?_
  exact ⟨⟨_, Heap.get?_push_size _ rfl, rfl⟩, h⟩

noncomputable def IsRev (h : Heap) (a : Addr) (x : Str) (t : Tok) (i : Int) : Prop := ∃ o, h.get? a = some o ∧ o.cls = .type "reversed" ∧ o.data = .fields #[.str x t, rawInt i]
theorem IsRev.typeIs {a : Addr} {x : Str} {t : Tok} {i : Int} (r : IsRev s.heap a x t i) : s.TypeIs (.ref a) "reversed" := let ⟨o, ho, hc, _⟩ := r; ⟨o, ho, hc⟩
theorem IsRev.at {h h' : Heap} {a : Addr} {x : Str} {t : Tok} {i : Int} (r : IsRev h a x t i) (e : ∀ o, h.get? a = some o → h'.get? a = some o) : IsRev h' a x t i := let ⟨o, ho, q⟩ := r; ⟨o, e _ ho, q⟩

theorem next_rev {it : Addr} {x : Str} {t : Tok} {i c : Nat} {Q : Option Value → Shared → Prop} (hit : IsRev s.heap it x t (i : Int)) (hx : x.cps[i]? = some c) (hsz : (x.length : Int) < 2 ^ 63)
    (hQ : ∀ h' tk u, IsRev h' it x t ((i : Int) - 1) → Heap.SameBut it s.heap h' → Q (some (.str ⟨#[c]⟩ u)) { s with heap := h', toks := tk }) : wpAny (model prog w) A (pyNext (.ref it)) Q E s := by
  obtain ⟨o, ho, hc, hd⟩ := id hit
  have hlt : i < x.length := by
    show i < x.cps.size
    exact (Array.getElem?_eq_some_iff.mp hx).1
  unfold pyNext
  refine wpAny_bind (wpAny_attempt (wpAny_callSpecial?_slot (name := Str.ofString "__next__") hit.typeIs slot_rev_next
    (wpAny_call_entry slot_rev_next hit.typeIs entry_rev_next ?_ (args_rev_next _))))
  unfold Builtin.«reversed.__next__»
  refine wpAny_bind (wpAny_of_eq (a := (Value.ref it, [])) rfl ?_)
  try dsimp only
  refine wpAny_bind (wpAny_field ho hd (x := .str x t) rfl ?_)
  refine wpAny_bind (wpAny_field ho hd (x := rawInt (i : Int)) rfl ?_)
  show wpAny _ _ (if (i : Int) < 0 then _ else _) _ _ s
  rw [if_neg (by omega)]
  refine wpAny_bind (wpAny_specialOf (T := "str") (v := .str x t) rfl F.slot_str_getitem.lookup ?_)
  refine wpAny_ite_split (fun hab => absurd hab (by decide)) (fun _ => ?_)
  refine wpAny_bind (wpAny_mkInt ?_)
  refine wpAny_bind (wpAny_attempt (P.getItem_str (c := c) ?_ ?_ ?_))
  · simp; omega
  · rw [seqIndex_of (by omega) (by omega), Int.toNat_natCast]; exact hx
  · try dsimp only
    refine wpAny_bind (wpAny_field (s := { s with toks := _ }) ho hd (x := rawInt (i : Int)) rfl ?_)
    try dsimp only
    refine wpAny_bind (wpAny_setField (s := { s with toks := _ }) ho hd (by simp) ?_)
    refine wpAny_pure ⟨_, rfl, wpAny_pure (hQ _ _ _ ?_ (Heap.SameBut.update ..))⟩
    exact ⟨_, Heap.get?_update_self _ ho (Obj.isFreed_of_fields (Obj.data_mapFields hd _)), (Obj.cls_mapFields ..).trans hc, by
      rw [Obj.data_mapFields hd]; simp⟩

theorem next_rev_end {it : Addr} {x : Str} {t : Tok} {Q : Option Value → Shared → Prop} (hh : A.handled = none) (hit : IsRev s.heap it x t (-1))
    (hQ : ∀ h', Heap.ExtBut it s.heap h' → Q none { s with heap := h' }) : wpAny (model prog w) A (pyNext (.ref it)) Q E s := by
  obtain ⟨o, ho, hc, hd⟩ := id hit
  unfold pyNext
  refine wpAny_bind (wpAny_attempt (wpAny_callSpecial?_slot (name := Str.ofString "__next__") hit.typeIs slot_rev_next
    (wpAny_call_entry slot_rev_next hit.typeIs entry_rev_next ?_ (args_rev_next _))))
  unfold Builtin.«reversed.__next__»
  refine wpAny_bind (wpAny_of_eq (a := (Value.ref it, [])) rfl ?_)
  try dsimp only
  refine wpAny_bind (wpAny_field ho hd (x := .str x t) rfl ?_)
  refine wpAny_bind (wpAny_field ho hd (x := rawInt (-1)) rfl ?_)
  show wpAny _ _ (if (-1 : Int) < 0 then _ else _) _ _ s
  rw [if_pos (by decide)]
  refine wpAny_bind (wpAny_rule ?_)
  refine wpAny_bind ?_
  show wpAny _ _ (setField (.ref it) 1 (rawInt (-1)) >>= fun _ => setField (.ref it) 0 .none) _ _ _
  refine wpAny_bind (wpAny_setField ho hd (by simp) ?_)
  have ho2 := Heap.get?_update_self (Obj.mapFields (·.set! 1 (rawInt (-1)))) ho (Obj.isFreed_of_fields (Obj.data_mapFields hd _))
  refine wpAny_setField ho2 (Obj.data_mapFields hd _) (by simp) ?_
  first
  | show wpAny _ _ (newExc (.type "StopIteration") [] >>= _) _ _ _
  | (refine wpAny_bind ?_; show wpAny _ _ (newExc (.type "StopIteration") [] >>= _) _ _ _)
  refine wpAny_bind ?_
  simp only [newExc, newTuple]
  refine wpAny_bind (wpAny_newObj_type ?_ (by size_fits))
  refine wpAny_bind (m := firstArgMember _ _) (wpAny_of_eq (a := Value.none) (by first | rfl | (simp only [firstArgMember]; rfl)) ?_)
  refine wpAny_newObj_type ?_ (by size_fits)
  simp only [raiseNew]
  refine wpAny_bind (wpAny_handled ?_)
  first | rw [show A.in1.handled = none from hh] | rw [hh]
  refine wpAny_bind (wpAny_pure (wpAny_throw ?_))
  refine wpAny_bind (wpAny_isInstance (T := "StopIteration") (b := true) ⟨_, Heap.get?_push_size _ rfl, rfl⟩ isSubtype_stop ?_)
  refine wpAny_pure (hQ _ ?_)
  refine Heap.ExtBut.push (Heap.ExtBut.push ?_ _) _
  intro b o hb e
  exact (Heap.get?_update_other _ _ (Ne.symm hb)).trans ((Heap.get?_update_other _ _ (Ne.symm hb)).trans e)

theorem iter_rev {it : Addr} {x : Str} {t : Tok} {i : Int} {Q : Value → Shared → Prop} (hit : IsRev s.heap it x t i) (h : Q (.ref it) s) : wpAny (model prog w) A (pyIter (.ref it)) Q E s := by
  refine wpAny_pyIter_slot hit.typeIs slot_rev_iter (wpAny_call_entry slot_rev_iter hit.typeIs entry_rev_iter ?_ (args_rev_iter _))
  show wpAny _ _ (ret (.ref it)) _ _ s
  exact wpAny_pure ⟨_, rfl, "reversed", _, hit.typeIs, slot_rev_next.lookup, h⟩
end

theorem Walks.rev {prog : Program} {w : World} {A : Around} (hh : A.handled = none) (I : Addr) (x : Str) (t : Tok) (hsz : (x.length : Int) < 2 ^ 63) :
    Walks prog w A I [I] [I] x.length (fun i v => ∃ c u, x.cps[x.length - 1 - i]? = some c ∧ v = .str ⟨#[c]⟩ u) (fun i h => i ≤ x.length ∧ IsRev h I x t ((x.length : Int) - 1 - (i : Int))) where
  sub := fun b hb => hb
  frame := fun _ _ _ r hk => ⟨r.1, r.2.at fun o e => hk I (by simp) o e⟩
  item := fun i s Q E hi r hQ => by
    have e : (x.length : Int) - 1 - (i : Int) = ((x.length - 1 - i : Nat) : Int) := by omega
    have hit := r.2
    rw [e] at hit
    have hlt : x.length - 1 - i < x.cps.size := by show _ < x.length; omega
    have hx : x.cps[x.length - 1 - i]? = some (x.cps[x.length - 1 - i]'hlt) := Array.getElem?_eq_getElem hlt
    refine next_rev hit hx hsz fun h' tk u hit' hs' => ?_
    have e2 : ((x.length - 1 - i : Nat) : Int) - 1 = (x.length : Int) - 1 - ((i + 1 : Nat) : Int) := by omega
    rw [e2] at hit'
    exact hQ _ h' tk ⟨_, u, hx, rfl⟩ ⟨hi, hit'⟩ fun b o hb eo => hs'.extBut b o (fun h => hb (by simp [h])) eo
  done := fun s Q E r hQ => by
    have e : (x.length : Int) - 1 - (x.length : Int) = -1 := by omega
    have hit := r.2
    rw [e] at hit
    exact next_rev_end hh hit fun h' he' => hQ h' s.toks fun b o hb eo => he' b o (fun h => hb (by simp [h])) eo
  self := fun _ _ _ _ r hQ => iter_rev r.2 hQ

theorem rev_no_len : typeLookup (.type "reversed") "__len__" = pure none := by rw [typeLookup_type, builtinLookup_eq_fast]; kernel_rfl
section
variable {prog : Program} {w : World} {A : Around} {E : Value → Shared → Prop} {s : Shared}
theorem call_rev_hint {it : Addr} {x : Str} {t : Tok} {Q : Value → Shared → Prop} (hit : IsRev s.heap it x t ((x.length : Int) - 1)) (hsz : (x.length : Int) < 2 ^ 63)
    (h : ∀ u tk, Q (.int x.length u) { s with toks := tk }) : wpAny (model prog w) A (call (.builtin "reversed.__length_hint__") [.ref it]) Q E s := by
  obtain ⟨o, ho, hc, hd⟩ := id hit
  refine wpAny_call_entry slot_rev_hint hit.typeIs entry_rev_hint ?_ (args_rev_hint _)
  unfold Builtin.«reversed.__length_hint__»
  refine wpAny_bind (wpAny_of_eq (a := Value.ref it) rfl ?_)
  refine wpAny_bind (wpAny_field ho hd (x := .str x t) rfl ?_)
  refine wpAny_ite_split (fun hab => absurd hab Bool.false_ne_true) (fun _ => ?_)
  refine wpAny_bind (P.len_str (by omega) ?_)
  refine wpAny_bind (m := asInt? _) (wpAny_pure ?_)
  try dsimp only
  refine wpAny_bind (wpAny_field (s := { s with toks := _ }) ho hd (x := rawInt ((x.length : Int) - 1)) rfl ?_)
  try dsimp only
  refine wpAny_ite_split (fun hab => absurd hab (by omega)) (fun _ => ?_)
  rw [show ((x.length : Int) - 1 + 1) = x.length by omega]
  exact wpAny_bind (wpAny_mkInt (wpAny_pure ⟨_, rfl, h _ _⟩))

theorem hint_rev {it : Addr} {x : Str} {t : Tok} {Q : Bool → Shared → Prop} (hit : IsRev s.heap it x t ((x.length : Int) - 1)) (hlen : x.length ≤ 2 ^ 24)
    (h : ∀ tk, Q ((x.length : Int) != 0) { s with toks := tk }) : wpAny (model prog w) A (Builtin.List.listLengthHint (.ref it)) Q E s := by
  unfold Builtin.List.listLengthHint
  refine wpAny_bind (wpAny_specialOf hit.typeIs rev_no_len ?_)
  show wpAny _ _ (specialOf (Value.ref it) (Str.ofString "__length_hint__") >>= _) _ _ _
  refine wpAny_bind (wpAny_specialOf hit.typeIs slot_rev_hint.lookup ?_)
  generalize hid : ("reversed.__length_hint__" : String) = id0
  wp_delta
  rw [show splitId id0 = some ("reversed", "__length_hint__") from by subst hid; decide +kernel]
  subst hid
  refine wpAny_bind (wpAny_isInstance (T := "reversed") (b := true) hit.typeIs sub_rev_self ?_)
  refine wpAny_ite_split (fun hab => absurd hab (by decide)) (fun _ => ?_)
  refine wpAny_ite_split (fun hab => absurd hab (by decide +kernel)) (fun _ => ?_)
  refine wpAny_bind (wpAny_rule ?_)
  refine wpAny_bind (wpAny_of_eq (slot_rev_hint.bind _) ?_)
  try dsimp only
  refine wpAny_bind (wpAny_attempt (call_rev_hint hit (by omega) fun u tk => ?_))
  show wpAny _ _ (asInt? (Value.int (x.length : Int) u) >>= _) _ _ _
  have hai : asInt? (Value.int (x.length : Int) u) = pure (some (x.length : Int)) := rfl
  rw [hai, pure_bind]
  try dsimp only
  have htl : Builtin.List.listTooLong ((x.length : Int).toNat) = false := by simp [Builtin.List.listTooLong, sizeLine]; omega
  have hfi : Builtin.List.listFitsIndex (x.length : Int) = true := by simp [Builtin.List.listFitsIndex]; omega
  simp only [hfi, htl, Bool.not_true, Bool.false_eq_true, if_false, show ¬ ((x.length : Int) < 0) by omega]
  exact wpAny_pure (h _)

theorem extend_rev {R : Result → Shared → Prop} {r : Addr} {x : Str} {t : Tok} (hh : A.handled = none) (hr : IsRev s.heap r x t ((x.length : Int) - 1)) (hlen : x.length ≤ 2 ^ 24) (S : Addr) (res : Value) (c₀ : Nat) (hS : s.heap.get? S = some { cls := .type "list", data := .seq #[] c₀ })
    (hR : ∀ h' tk acc' c', (∀ b o, b ≠ S → b ≠ r → s.heap.get? b = some o → h'.get? b = some o) → h'.get? S = some { cls := .type "list", dict := none, data := .seq acc' c', slots := #[] } →
      ItemsOf (fun i v => ∃ c u, x.cps[x.length - 1 - i]? = some c ∧ v = .str ⟨#[c]⟩ u) acc' x.length → R (.ok (.ret res)) { s with heap := h', toks := tk }) :
    wpAny (model prog w) A.in1 (Builtin.List.listExtendWith (.ref S) (.ref r) res)
      (fun fin s' => match fin with | .done f => R (.ok f) s' | .again c' => c'.quiet = true ∧ codeAny (model prog w) A c' R s') (fun e s' => R (.error e) s') s := by
  have hSr : S ≠ r := fun e => by
    obtain ⟨o, ho, hc, _⟩ := hr
    rw [e, ho] at hS
    injection hS with q
    rw [q] at hc
    exact absurd (show Value.type "list" = Value.type "reversed" from hc) (by decide)
  have hSf : S ∉ [r] := fun hm => hSr (List.mem_singleton.mp hm)
  have W := (Walks.rev (prog := prog) (w := w) (A := A.in1) hh r x t (by omega)).toS
  have key : ∀ (h : Heap) (c₁ tk : Nat), IsRev h r x t ((x.length : Int) - 1) → (∀ b o, b ≠ S → s.heap.get? b = some o → h.get? b = some o) →
      h.get? S = some { cls := .type "list", data := .seq #[] c₁ } → codeAny (model prog w) A (.builtin "list.extend.loop" ⟨[.ref S, .ref r, res], []⟩) R { s with heap := h, toks := tk } := by
    intro h c₁ tk hit hk hS₁
    refine codeAny_extend_loopS W (by rw [sizeLine_eq]; omega) S hSf res x.length 0 _ #[] c₁ rfl (Nat.zero_le _) ⟨Nat.zero_le _, by simpa using hit⟩ hS₁ (ItemsOf.nil _) fun s' acc' c' hm hS' hacc => ?_
    rw [Moved.eq_with hm]
    refine hR s'.heap s'.toks acc' c' (fun b o hb hb' e => hm.heap b o (fun hmem => ?_) (hk b o hb e)) hS' hacc
    rcases List.mem_cons.mp hmem with e' | hmem
    · exact hb e'
    · exact hb' (List.mem_singleton.mp hmem)
  unfold Builtin.List.listExtendWith
  refine wpAny_bind (wpAny_typeOf (T := "reversed") hr.typeIs ?_)
  have h1 : Builtin.List.listSameRef (.ref S) (.ref r) = false := by simp [Builtin.List.listSameRef, hSr]
  have h2 : (Value.type "reversed" == Value.type "list") = false := by decide
  have h3 : (Value.type "reversed" == Value.type "tuple") = false := by decide
  simp only [h1, h2, h3, Bool.or_false, Bool.false_eq_true, if_false]
  refine wpAny_bind (iter_rev hr ?_)
  refine wpAny_bind (wpAny_holding (hint_rev hr hlen fun tk => ?_))
  refine wpAny_ite_split (fun _ => ?_) (fun _ => wpAny_pure ⟨plainId_quiet F.plain_extend_loop _, key _ c₀ _ hr (fun b o _ e => e) hS⟩)
  refine wpAny_bind (wpAny_rule ?_)
  refine wpAny_bind ?_
  show wpAny _ _ (updateSeq S (·.push .none) >>= fun _ => updateSeq S (·.pop)) _ _ _
  refine wpAny_bind (wpAny_updateSeq hS rfl ?_)
  have hS₂ := Heap.get?_update_self (Obj.mapSeq (·.push Value.none)) hS rfl
  refine wpAny_updateSeq (hz := by seq_fits) hS₂ rfl ?_
  have hS₃ := Heap.get?_update_self (Obj.mapSeq (·.pop)) hS₂ rfl
  refine wpAny_pure ⟨plainId_quiet F.plain_extend_loop _, key _ _ _ ?_ (fun b o hb e => ?_) hS₃⟩
  · exact hr.at fun o e => (Heap.get?_update_other _ _ hSr).trans ((Heap.get?_update_other _ _ hSr).trans e)
  · exact (Heap.get?_update_other _ _ (Ne.symm hb)).trans ((Heap.get?_update_other _ _ (Ne.symm hb)).trans e)

theorem init_rev {R : Result → Shared → Prop} {r : Addr} {x : Str} {t : Tok} (hh : A.handled = none) (hr : IsRev s.heap r x t ((x.length : Int) - 1)) (hlen : x.length ≤ 2 ^ 24) (S : Addr) (hS : s.heap.get? S = some { cls := .type "list", data := .seq #[] })
    (hR : ∀ h' tk acc' c', (∀ b o, b ≠ S → b ≠ r → s.heap.get? b = some o → h'.get? b = some o) → h'.get? S = some { cls := .type "list", dict := none, data := .seq acc' c', slots := #[] } →
      ItemsOf (fun i v => ∃ c u, x.cps[x.length - 1 - i]? = some c ∧ v = .str ⟨#[c]⟩ u) acc' x.length → R (.ok (.ret .none)) { s with heap := h', toks := tk }) :
    wpAny (model prog w) A.in1 (Builtin.«list.__init__» ⟨[.ref S, .ref r], []⟩)
      (fun fin s' => match fin with | .done f => R (.ok f) s' | .again c' => c'.quiet = true ∧ codeAny (model prog w) A c' R s') (fun e s' => R (.error e) s') s := by
  have hSr : S ≠ r := fun e => by
    obtain ⟨o, ho, hc, _⟩ := hr
    rw [e, ho] at hS
    injection hS with q
    rw [q] at hc
    exact absurd (show Value.type "list" = Value.type "reversed" from hc) (by decide)
  show wpAny _ _ (do let old ← Builtin.List.listItems (.ref S); Builtin.List.listUpdate (.ref S) (fun _ => #[]); letGo old.toList.reverse; Builtin.List.listExtendWith (.ref S) (.ref r) .none) _ _ s
  refine wpAny_bind ?_
  unfold Builtin.List.listItems
  refine wpAny_bind (wpAny_seqItems hS rfl (wpAny_pure ?_))
  show wpAny _ _ (updateSeq S (fun _ => #[]) >>= fun _ => letGo (#[] : Array Value).toList.reverse >>= fun _ => Builtin.List.listExtendWith (.ref S) (.ref r) .none) _ _ s
  refine wpAny_bind (wpAny_updateSeq hS rfl ?_)
  have hS₂ := Heap.get?_update_self (Obj.mapSeq (fun _ => (#[] : Array Value))) hS rfl
  have oth : ∀ b o, b ≠ S → s.heap.get? b = some o → (s.heap.update S (Obj.mapSeq (fun _ => (#[] : Array Value)))).get? b = some o :=
    fun b o hb e => (Heap.get?_update_other _ _ (Ne.symm hb)).trans e
  refine wpAny_bind (wpAny_letGo ?_)
  refine extend_rev hh (hr.at fun o e => oth r o (Ne.symm hSr) e) hlen S .none _ hS₂ fun h' tk acc' c' hk hS' hacc => ?_
  exact hR h' tk acc' c' (fun b o hb hb' e => hk b o hb hb' (oth b o hb e)) hS' hacc

theorem call_list_rev {Q : Value → Shared → Prop} {r : Addr} {x : Str} {t : Tok} (hh : A.handled = none) (hr : IsRev s.heap r x t ((x.length : Int) - 1)) (hlen : x.length ≤ 2 ^ 24)
    (hQ : ∀ h' tk acc' c', (∀ b o, b ≠ r → s.heap.get? b = some o → h'.get? b = some o) →
      h'.get? s.heap.objs.size = some { cls := .type "list", dict := none, data := .seq acc' c', slots := #[] } → ItemsOf (fun i v => ∃ c u, x.cps[x.length - 1 - i]? = some c ∧ v = .str ⟨#[c]⟩ u) acc' x.length → Q (.ref s.heap.objs.size) { s with heap := h', toks := tk }) :
    wpAny (model prog w) A (call (.type "list") [.ref r]) Q E s := by
  refine callType_codes (Q₁ := fun obj s₁ => obj = .ref s.heap.objs.size ∧ s₁ = { s with heap := s.heap.push { cls := .type "list", data := .seq #[] } }) F.called_list (F.typeCall_list_1 _) F.entry_list_init
    (code_list_new _ ⟨rfl, rfl⟩) fun obj s₁ h₁ => ?_
  obtain ⟨rfl, rfl⟩ := h₁
  have hS : (s.heap.push { cls := .type "list", data := .seq #[] }).get? s.heap.objs.size = some { cls := .type "list", data := .seq #[] } := Heap.get?_push_size _ rfl
  refine ⟨⟨_, hS, rfl⟩, F.args_list_init_2 _ _, init_rev (A := A.in1) hh (hr.at fun o e => Heap.get?_push_of_some _ e) hlen _ hS fun h' tk acc' c' hk hS' hacc => ?_⟩
  exact ⟨rfl, hQ h' tk acc' c' (fun b o hb e => hk b o (Nat.ne_of_lt (Heap.lt_size e)) hb (Heap.get?_push_of_some _ e)) hS' hacc⟩
end
end Mine

namespace Mine
open PySem

theorem repL_of_get {w : World} {h : Heap} {X : Addr → Prop} : ∀ {ds : List D} {vs : List Value}, vs.length = ds.length → (∀ (i : Nat) (v : Value), vs[i]? = some v → ∃ d, ds[i]? = some d ∧ Rep w h X d v) → RepL w h X ds vs
  | [], vs, hl, _ => by obtain rfl := List.length_eq_zero_iff.mp hl; exact .nil
  | d :: ds, [], hl, _ => by simp at hl
  | d :: ds, v :: vs, hl, hg => by
    obtain ⟨d', e, r⟩ := hg 0 v rfl
    simp at e; subst e
    exact .cons r (repL_of_get (by simpa using hl) fun i v hv => by simpa using hg (i + 1) v (by simpa using hv))

section
variable {prog : Program} {w : World} {h₀ : Heap} {G : List D} {K : Oracle} {lv : Nat} {c : Ctx} {mg mb : Str → Option Value}

theorem ev_listRev {e : Expr} {a : CE} (GL : Glo w h₀ mg mb c.gl G) (ha : ∀ x, chkE c x a = true → EvalOK prog w h₀ G K lv c x a) (h : chkE c e (.fn1 .listRev a) = true) : EvalOK prog w h₀ G K lv c e (.fn1 .listRev a) := by
  unfold chkE at h
  dsimp only at h
  split at h
  · rename_i x y hco
    simp only [Bool.and_eq_true, beq_iff_eq] at h
    obtain ⟨⟨rfl, h2⟩, h3⟩ := h
    split at h3
    · rename_i z u hcu
      simp only [Bool.and_eq_true, beq_iff_eq] at h3
      obtain ⟨⟨rfl, h4⟩, h5⟩ := h3
      obtain ⟨p, q, rfl⟩ := callOf_eq hco
      obtain ⟨p', q', rfl⟩ := callOf_eq hcu
      intro A E s env base X₀ Δ own V ds d T hd he
      rw [evalC] at he
      rw [defd] at hd
      obtain ⟨dx, hx, he⟩ := bindI he
      have hs : ∃ t, dx = .str t ∧ d = .list (t.reverse.map fun c => .str [c]) := by
        cases dx with
        | str t => rw [fn1] at he; cases he; exact ⟨t, rfl, rfl⟩
        | _ => simp [fn1] at he
      obtain ⟨t, rfl, rfl⟩ := hs
      refine PyProof.Rows.Call_Name1 (load_builtin GL T h2 (v := .type "list") (List.mem_of_getElem? (i := 4) rfl) ?_) rfl
      refine PyProof.Rows.callWith_type rfl (Calls.evalArgs_plain (Calls.spliced_cons ?_))
      refine arg1 GL T h4 (fv := .type "reversed") (List.mem_of_getElem? (i := 12) rfl) h5 (ha u h5) hd hx fun v s₁ p₁ => ?_
      have r₁ := p₁.rep T.st
      rw [Rep] at r₁
      obtain ⟨hz, hc, tk, rfl⟩ := r₁
      have hL : LIM = 16777216 := rfl
      have hlen : (SS t).length = t.length := SS_length t
      refine call_rev_str (by rw [hlen]; omega) (Calls.spliced_nil ?_)
      refine call_list_rev (x := SS t) (t := tk) T.a.handled ⟨_, Heap.get?_push_size _ rfl, rfl, rfl⟩ (by rw [hlen]; omega) fun h' tk' acc' c' hk hl hacc => ?_
      have hne : ∀ b o, s₁.heap.get? b = some o → b ≠ s₁.heap.objs.size := fun b o e q => by rw [q, none_at] at e; cases e
      have hk' : ∀ b o, s₁.heap.get? b = some o → h'.get? b = some o := fun b o e => hk b o (hne b o e) (push_grow _ _ _ _ e)
      obtain ⟨h₁, tk₁, rfl, k₁⟩ := p₁.keeps
      refine .new1 ⟨h', tk', rfl, fun b o e => hk' b o (k₁ b o e)⟩ rfl rfl ⟨_, acc', rfl, ?_, ?_, ⟨c', hl⟩, ?_⟩
      · refine none_of_grow k₁ (none_of_grow (push_grow _ _) none_at)
      · simpa using hz
      · refine repL_of_get ?_ fun i v hv => ?_
        · rw [Array.length_toList, hacc.1, hlen]; simp
        · rw [Array.getElem?_toList] at hv
          obtain ⟨c, u, hcu, rfl⟩ := hacc.2 i v hv
          have hi : i < acc'.size := (Array.getElem?_eq_some_iff.mp hv).1
          rw [hacc.1, hlen] at hi
          have hcu' : t[t.length - 1 - i]? = some c := by
            rw [hlen] at hcu
            simpa [SS] using hcu
          refine ⟨.str [c], ?_, ?_⟩
          · rw [List.getElem?_map, List.getElem?_reverse hi, hcu']; rfl
          · rw [Rep]
            exact ⟨by simp [LIM], by simpa using hc c (List.mem_of_getElem? hcu'), u, rfl⟩
    · cases h3
  · cases h

/-! slices -/
noncomputable def dpart : D → Option Int
  | .int i => some i
  | _ => none
theorem bnd_clip {d : D} {n k dflt : Nat} (h : bnd d n dflt = some k) : (match dpart d with | none => (dflt : Int) | some i => max 0 (min (if i < 0 then i + n else i) n)) = (k : Int) := by
  unfold bnd at h
  split at h
  · cases h; rfl
  · rename_i i
    cases h
    simp only [dpart, clampI]
    by_cases q : i < 0
    · rw [if_pos q, if_pos q, Int.min_eq_left (by omega), Int.toNat_eq_max, Int.max_comm]
    · rw [if_neg q, if_neg q]
      rcases Int.le_total i n with z | z
      · rw [Int.min_eq_left z, Int.max_eq_right (by omega)]; omega
      · rw [Int.min_eq_right z, Int.max_eq_right (by omega)]; omega
  · cases h
theorem bounds_nat {l u : D} {n a b : Nat} (h1 : bnd l n 0 = some a) (h2 : bnd u n n = some b) : sliceBounds (dpart l) (dpart u) none n = ((a : Int), (b : Int), 1) := by
  have e1 := bnd_clip h1
  have e2 := bnd_clip h2
  simp only [sliceBounds, Option.getD_none, show (1 : Int) > 0 by decide, if_true]
  rw [← e1, ← e2]
  cases dpart l <;> cases dpart u <;> rfl
theorem pick_cut {l u : D} {items : Array Value} {a b : Nat} (h1 : bnd l items.size 0 = some a) (h2 : bnd u items.size items.size = some b) : slicePick items (dpart l) (dpart u) none = (cut items.toList a b).toArray := by
  unfold slicePick
  rw [bounds_nat h1 h2]
  simp only [sliceRange_one, pick_run]
  rfl
theorem isPart_of {h : Heap} {X : Addr → Prop} {d : D} {v : Value} {n k dflt : Nat} (hb : bnd d n dflt = some k) (r : Rep w h X d v) : IsPart v (dpart d) ∧ ∃ o, v = partValue o ∧ o.map (·.1) = dpart d := by
  unfold bnd at hb
  split at hb
  · rw [Rep] at r; subst r; exact ⟨.none, none, rfl, rfl⟩
  · rename_i i
    rw [Rep] at r; obtain ⟨t, rfl⟩ := r; exact ⟨.int i t, some (i, t), rfl, rfl⟩
  · cases hb
theorem bnd_le {d : D} {n k dflt : Nat} (hb : bnd d n dflt = some k) (hd : dflt ≤ n) : k ≤ n ∨ ∃ i, d = .int i ∧ k = clampI i n := by
  unfold bnd at hb
  split at hb
  · cases hb; exact .inl hd
  · cases hb; exact .inr ⟨_, rfl, rfl⟩
  · cases hb
theorem clampI_le (i : Int) (n : Nat) : clampI i n ≤ n := by unfold clampI; split <;> omega

variable {A : Around} {E : Value → Shared → Prop} {s : Shared} {X X' X'' : Addr → Prop}
theorem slice_sound {x l u d : D} {vx vl vu : Value} {sl : Addr} (e : sliceOp x l u = some d) (rx : Items w s.heap X x vx) (rl : Rep w s.heap X' l vl) (ru : Rep w s.heap X'' u vu) (hs : s.heap.IsSliceOf sl vl vu .none) :
    wpAny (model prog w) A (getItem vx (.ref sl)) (OpPost w s X d) E s := by
  have hL : LIM = 16777216 := rfl
  unfold sliceOp at e
  split at e
  · rename_i xs
    obtain ⟨a, h1, e⟩ := bindI e
    obtain ⟨b, h2, e⟩ := bindI e
    cases e
    obtain ⟨ad, vs, rfl, hz, hl, r⟩ := rx
    have hlen := r.length
    rw [Array.length_toList] at hlen
    rw [← hlen] at h1 h2
    refine wpAny_getItem_list_slice hl.isList hs (isPart_of h1 rl).1 (isPart_of h2 ru).1 .none (by simp) ?_ (by rw [← lim_line]; omega)
    rw [pick_cut h1 h2]
    refine ⟨⟨_, _, rfl, push_grow _ _⟩, New1.list (push_grow _ _) none_at ?_ ⟨_, Heap.get?_push_size _ rfl⟩ ?_⟩
    · have : (cut xs a b).length ≤ xs.length := by simp [cut]; omega
      omega
    · exact (r.drop a).take (b - a)
  · rename_i t
    obtain ⟨a, h1, e⟩ := bindI e
    obtain ⟨b, h2, e⟩ := bindI e
    cases e
    have rx' : Rep w s.heap X (.str t) vx := rx
    rw [Rep] at rx'
    obtain ⟨hz, hc, tk, rfl⟩ := rx'
    obtain ⟨_, ol, rfl, el⟩ := isPart_of h1 rl
    obtain ⟨_, ou, rfl, eu⟩ := isPart_of h2 ru
    have hlen : (SS t).length = t.length := SS_length t
    have hb : b ≤ t.length := by
      rcases bnd_le h2 (Nat.le_refl _) with q | ⟨i, _, rfl⟩
      · exact q
      · exact clampI_le _ _
    refine wpAny_getItem_str_slice (l := ol) (u := ou) (st := none) hs rfl ?_
    have hpk : slicePicked (SS t) ol ou none = (List.range (b - a)).map (a + ·) := by
      unfold slicePicked Builtin.Str.strSliceIndices
      rw [el, eu, hlen]
      have q := bounds_nat h1 h2
      have q' : sliceRange (sliceBounds (dpart l) (dpart u) none t.length).1 (sliceBounds (dpart l) (dpart u) none t.length).2.1 1 = (List.range (b - a)).map (a + ·) := by rw [q, sliceRange_one]
      rw [← q']
      cases dpart l <;> cases dpart u <;> rfl
    have hcut : ((slicePicked (SS t) ol ou none).filterMap ((SS t).cps[·]?)) = cut t a b := by
      rw [hpk, pick_run]; simp [SS, cut]
    have hrep : ∀ h' Y, Rep w h' Y (.str (cut t a b)) (.str (SS (cut t a b)) tk) := fun h' Y => by
      rw [Rep]
      exact ⟨by simp [cut]; omega, fun c q => hc c (List.mem_of_mem_drop (List.mem_of_mem_take q)), _, rfl⟩
    unfold sliceMade
    split
    · rename_i hw
      simp only [hpk, Bool.and_eq_true, beq_iff_eq, List.length_map, List.length_range] at hw
      have ha : a ≤ t.length := by
        rcases bnd_le h1 (Nat.zero_le _) with q | ⟨i, _, rfl⟩
        · exact q
        · exact clampI_le _ _
      have hab : a = 0 ∧ b = t.length := by have := hw.2; rw [hlen] at this; omega
      have hw' : cut t a b = t := by rw [hab.1, hab.2]; simp [cut]
      have hr := hrep s.heap X
      rw [hw'] at hr ⊢
      exact ⟨Keeps.refl' _, hr⟩
    · rw [hcut]
      refine ⟨?_, Keeps.tok _ _, ?_⟩
      · show (cut t a b).toArray.size ≤ sizeLine
        rw [← lim_line]; simp [cut]; omega
      · show Rep _ _ _ _ _
        rw [Rep]
        exact ⟨by simp [cut]; omega, fun c q => hc c (List.mem_of_mem_drop (List.mem_of_mem_take q)), _, rfl⟩
  · cases e

theorem part_ok {lo : Option Expr} {l : CE} {env : Env} {base : Heap} {X₀ : Addr → Prop} {Δ : List Own} {own : Owned} {V : Str → Option Value} {ds : List D} {d : D} (hl : ∀ x, chkE c x l = true → EvalOK prog w h₀ G K lv c x l) (h : (match lo with | some y => chkE c y l | none => isNoneC l) = true)
    (T : Sit w h₀ lv c A env base X₀ Δ own V ds s) (hd : defd Δ l = true) (he : evalC G K l ds = some d) : wpAny (model prog w) A (evalPart lo env) (fun v s' => Keeps s s' ∧ Rep w s'.heap (XR X₀ env own (reach l)) d v) E s := by
  cases lo with
  | some y => exact wpAny_mono (hl y h T hd he) (fun v s' p => ⟨p.keeps, p.rep T.st⟩) fun _ _ q => q
  | none =>
    have : l = .const .none := by
      have h : isNoneC l = true := h
      unfold isNoneC at h
      split at h
      · rfl
      · cases h
    subst this
    rw [evalC] at he; cases he
    exact wpAny_pure ⟨Keeps.refl' _, by rw [Rep]⟩

theorem ev_slice {e : Expr} {a l u : CE} (ha : ∀ x, chkE c x a = true → EvalOK prog w h₀ G K lv c x a) (hl : ∀ x, chkE c x l = true → EvalOK prog w h₀ G K lv c x l) (hu : ∀ x, chkE c x u = true → EvalOK prog w h₀ G K lv c x u) (h : chkE c e (.slice a l u) = true) : EvalOK prog w h₀ G K lv c e (.slice a l u) := by
  unfold chkE at h
  split at h
  · rename_i x lo hi p1 p2
    simp only [Bool.and_eq_true] at h
    obtain ⟨⟨h1, h2⟩, h3⟩ := h
    intro A E s env base X₀ Δ own V ds d T hd he
    rw [evalC] at he
    rw [defd] at hd
    simp only [Bool.and_eq_true] at hd
    obtain ⟨dx, hx, he⟩ := bindI he
    obtain ⟨dl, hdl, he⟩ := bindI he
    obtain ⟨du, hdu, he⟩ := bindI he
    refine PyProof.Rows.Subscript_ (wpAny_mono (ha x h1 T hd.1.1 hx) (fun vx s₁ p₁ => ?_) fun _ _ q => q)
    have T₁ := T.keeps p₁.keeps
    refine wpAny_Slice (wpAny_mono (part_ok hl h2 T₁ hd.1.2 hdl) (fun vl s₂ p₂ => ?_) fun _ _ q => q)
    have T₂ := T₁.keeps p₂.1
    refine wpAny_mono (part_ok hu h3 T₂ hd.2 hdu) (fun vu s₃ p₃ => ?_) fun _ _ q => q
    rw [evalPart_none]
    refine wpAny_pure ?_
    have g : Grow s₃.heap (s₃.heap.push { cls := .type "slice", data := .fields #[vl, vu, .none] }) := push_grow _ _
    have k₃ : Keeps s₃ { s₃ with heap := s₃.heap.push { cls := .type "slice", data := .fields #[vl, vu, .none] } } := ⟨_, _, rfl, g⟩
    have kk : Keeps s { s₃ with heap := s₃.heap.push { cls := .type "slice", data := .fields #[vl, vu, .none] } } := Keeps.trans' (Keeps.trans' (Keeps.trans' p₁.keeps p₂.1) p₃.1) k₃
    have it := (p₁.items T.st).grow (Keeps.grow (Keeps.trans' (Keeps.trans' p₂.1 p₃.1) k₃))
    have rl := p₂.2.grow (Keeps.grow (Keeps.trans' p₃.1 k₃))
    have ru := p₃.2.grow (Keeps.grow k₃)
    obtain ⟨Ty, bid, ht, hlk⟩ : ∃ T id, Shared.TypeIs { s₃ with heap := s₃.heap.push { cls := .type "slice", data := .fields #[vl, vu, .none] } } vx T ∧ typeLookup (.type T) "__getitem__" = pure (some (.builtin id)) := by
      cases dx with
      | list ds => obtain ⟨a, vs, rfl, _, ⟨n, e⟩, _⟩ := it; exact ⟨"list", _, ⟨_, e, rfl⟩, slot_list_getitem.lookup⟩
      | str t =>
        have r' : Rep w (s₃.heap.push { cls := .type "slice", data := .fields #[vl, vu, .none] }) (XR X₀ env own (elems a)) (.str t) vx := it
        rw [Rep] at r'
        obtain ⟨_, _, u, rfl⟩ := r'
        exact ⟨"str", _, typeIs_str _ _ _, F.slot_str_getitem.lookup⟩
      | _ => simp [sliceOp] at he
    refine PyProof.Rows.tail_any ht hlk (wpAny_mono (slice_sound he it rl ru (Heap.IsSliceOf.new ..)) (fun v s₄ p₄ => ?_) fun _ _ q => q) rfl
    refine .new1 (Keeps.trans' kk p₄.1) rfl rfl ?_
    rw [show reach (.slice a l u) = elems a by rw [reach]; rfl]
    exact p₄.2.older (Keeps.grow kk)
  · cases h
end
end Mine

namespace Mine
open PySem

/-! giving up ownership -/
theorem lowest_cov : ∀ {R : List (Nat × Nat)} {i l : Nat}, Cov R i l ↔ ∃ m, lowest i R = some m ∧ m ≤ l
  | [], i, l => by
    constructor
    · rintro ⟨_, _, h⟩; cases h
    · rintro ⟨_, h, _⟩; cases h
  | (j, k) :: R, i, l => by
    have ih := @lowest_cov R i l
    unfold lowest
    by_cases hj : j = i
    · rw [if_pos hj]
      subst hj
      constructor
      · rintro ⟨l', hl, hm⟩
        cases hr : lowest j R with
        | none =>
          rcases List.mem_cons.mp hm with e | hm
          · cases e; exact ⟨_, rfl, hl⟩
          · obtain ⟨m, e, _⟩ := ih.mp ⟨l', hl, hm⟩
            rw [hr] at e; cases e
        | some m =>
          refine ⟨_, rfl, ?_⟩
          rcases List.mem_cons.mp hm with e | hm
          · cases e; exact Nat.le_trans (Nat.min_le_left _ _) hl
          · obtain ⟨m', e, hm'⟩ := ih.mp ⟨l', hl, hm⟩
            rw [hr] at e; cases e
            exact Nat.le_trans (Nat.min_le_right _ _) hm'
      · rintro ⟨m, e, hm⟩
        cases hr : lowest j R with
        | none =>
          rw [hr] at e; cases e
          exact ⟨k, hm, List.mem_cons_self⟩
        | some m' =>
          rw [hr] at e; cases e
          dsimp only at hm
          rcases Nat.le_total k m' with q | q
          · rw [Nat.min_eq_left q] at hm
            exact ⟨k, hm, List.mem_cons_self⟩
          · rw [Nat.min_eq_right q] at hm
            obtain ⟨l', hl, h'⟩ := ih.mpr ⟨m', hr, hm⟩
            exact ⟨l', hl, List.mem_cons_of_mem _ h'⟩
    · rw [if_neg hj]
      constructor
      · rintro ⟨l', hl, hm⟩
        rcases List.mem_cons.mp hm with e | hm
        · cases e; exact absurd rfl hj
        · exact ih.mp ⟨l', hl, hm⟩
      · intro h
        obtain ⟨l', hl, h'⟩ := ih.mpr h
        exact ⟨l', hl, List.mem_cons_of_mem _ h'⟩

noncomputable def keepB (R : List (Nat × Nat)) (p : Addr × Nat × Nat) : Bool := match lowest p.2.1 R with | some m => decide (p.2.2 < m) | none => true
theorem keepB_iff {R : List (Nat × Nat)} {p : Addr × Nat × Nat} : keepB R p = true ↔ ¬ Cov R p.2.1 p.2.2 := by
  unfold keepB
  rw [lowest_cov]
  cases h : lowest p.2.1 R with
  | none => simp
  | some m => simp

theorem down_get {R : List (Nat × Nat)} {Δ : List Own} {i n' : Nat} (h : (down R Δ).getD i none = some n') : ∃ n, Δ.getD i none = some n ∧ n' ≤ n ∧ (∀ m, lowest i R = some m → n' ≤ m) ∧ (lowest i R = none → n' = n) ∧ (n' = n ∨ lowest i R = some n') := by
  unfold down at h
  rw [List.getD_eq_getElem?_getD, List.getElem?_mapIdx] at h
  rw [List.getD_eq_getElem?_getD]
  cases e : Δ[i]? with
  | none => rw [e] at h; cases h
  | some o =>
    rw [e] at h
    simp only [Option.map_some, Option.getD_some] at h ⊢
    cases o with
    | none => split at h <;> simp_all
    | some n =>
      cases hl : lowest i R with
      | none => rw [hl] at h; simp at h; subst h; exact ⟨n, rfl, Nat.le_refl _, by simp, by simp, by simp⟩
      | some m =>
        rw [hl] at h
        simp at h
        subst h
        refine ⟨n, rfl, Nat.min_le_left _ _, ?_, by simp, ?_⟩
        · intro m' e; cases e; exact Nat.min_le_right _ _
        · rcases Nat.le_total n m with q | q
          · left; exact Nat.min_eq_left q
          · right; rw [Nat.min_eq_right q]
theorem down_isSome {R : List (Nat × Nat)} {Δ : List Own} {i n : Nat} (h : Δ.getD i none = some n) : ∃ n', (down R Δ).getD i none = some n' := by
  unfold down
  rw [List.getD_eq_getElem?_getD] at h
  rw [List.getD_eq_getElem?_getD, List.getElem?_mapIdx]
  cases e : Δ[i]? with
  | none => rw [e] at h; cases h
  | some o =>
    rw [e] at h
    simp only [Option.getD_some] at h
    subst h
    simp only [Option.map_some, Option.getD_some]
    cases lowest i R <;> simp
theorem down_length {R : List (Nat × Nat)} {Δ : List Own} : (down R Δ).length = Δ.length := by unfold down; simp

section
variable {w : World} {base : Heap} {X₀ : Addr → Prop} {env : Env} {nm : List (Option Str)} {Δ : List Own} {own : Owned} {V : Str → Option Value} {ds : List D} {h : Heap}

theorem XR.keep {R R' : List (Nat × Nat)} {a : Addr} (x : XR X₀ env own (R ++ R') a) : XR X₀ env (own.filter (keepB R')) R a := by
  rcases x with q | q | ⟨i, l, hm, hc⟩
  · exact .inl q
  · exact .inr (.inl q)
  · refine .inr (.inr ⟨i, l, List.mem_filter.mpr ⟨hm, keepB_iff.mpr fun ⟨l', hl, hr⟩ => hc ⟨l', hl, List.mem_append_right _ hr⟩⟩, fun ⟨l', hl, hr⟩ => hc ⟨l', hl, List.mem_append_left _ hr⟩⟩)
theorem XR.unkeep {R R' : List (Nat × Nat)} {a : Addr} (x : XR X₀ env (own.filter (keepB R')) R a) : XR X₀ env own R a := by
  rcases x with q | q | ⟨i, l, hm, hc⟩
  · exact .inl q
  · exact .inr (.inl q)
  · exact .inr (.inr ⟨i, l, mof hm, hc⟩)
theorem XR.unkeep' {R' : List (Nat × Nat)} {a : Addr} (x : XR X₀ env (own.filter (keepB R')) [] a) : XR X₀ env own R' a := by
  rcases x with q | q | ⟨i, l, hm, hc⟩
  · exact .inl q
  · exact .inr (.inl q)
  · exact .inr (.inr ⟨i, l, mof hm, keepB_iff.mp (List.mem_filter.mp hm).2⟩)

theorem St.down (S : St w base X₀ env nm Δ own V ds h) (R : List (Nat × Nat)) : St w base X₀ env nm (Mine.down R Δ) (own.filter (keepB R)) V ds h where
  keep := S.keep
  xal := S.xal
  fm := S.fm
  fnew := S.fnew
  onew := fun p q => S.onew p (mof q)
  nodup := S.nodup.sublist ((List.filter_sublist).map _)
  vars := S.vars
  inj := S.inj
  lenΔ := by rw [down_length]; exact S.lenΔ
  lend := S.lend
  lev := fun p q => by
    obtain ⟨n, hn, hl⟩ := S.lev p (mof q)
    obtain ⟨n', hn'⟩ := down_isSome (R := R) hn
    refine ⟨n', hn', ?_⟩
    obtain ⟨n₁, e₁, _, _, _, e⟩ := down_get hn'
    rw [hn] at e₁; cases e₁
    rcases e with rfl | e
    · exact hl
    · have k := keepB_iff.mp (List.mem_filter.mp q).2
      rw [lowest_cov] at k
      exact Nat.lt_of_not_le fun z => k ⟨n', e, z⟩
  slots := fun i n' x hx hn' => by
    obtain ⟨n, hn, h1, h2, h3, h4⟩ := down_get hn'
    obtain ⟨v, d, e1, e2, r⟩ := S.slots i n x hx hn
    refine ⟨v, d, e1, e2, OwnR.drop (fun b q => XR.unkeep q) n 0 n' d v h1 (fun a j q _ hj => ?_) (fun a j q hj y => ?_) r⟩
    · refine List.mem_filter.mpr ⟨q, keepB_iff.mpr fun k => ?_⟩
      obtain ⟨m, e, hm⟩ := lowest_cov.mp k
      have e' : lowest i R = some m := e
      have := h2 m e'
      have hm' : m ≤ j := hm
      omega
    · have key : ¬ (a, i, j) ∈ own.filter (keepB R) := fun z => by
        obtain ⟨n₁, e₁, hl⟩ := S.lev _ q
        have e₁' : Δ.getD i none = some n₁ := e₁
        rw [hn] at e₁'; cases e₁'
        have hl' : j < n := hl
        rcases h4 with rfl | e
        · omega
        · have k := keepB_iff.mp (List.mem_filter.mp z).2
          exact k (lowest_cov.mpr ⟨n', e, by show n' ≤ j; omega⟩)
      rcases y with y | y | ⟨i', l', hm', _⟩
      · exact (S.onew _ q).2.2.2 y
      · exact (S.onew _ q).2.2.1 y
      · have : (a, i, j) = (a, i', l') := nodup_inj S.nodup q (mof hm') rfl
        cases this
        exact key hm'
end
end Mine

namespace Mine
open PySem

/-! comprehensions: the block's cells -/
noncomputable def clo (cells : List (Str × Addr)) : List (Str × NameKind) → List (Str × Addr) → List (Str × Addr)
  | [], acc => acc
  | (n, k) :: r, acc => if k == .free then clo cells r ((n, (cells.lookup n).getD 0) :: acc) else clo cells r acc

theorem forIn_clo {cells : List (Str × Addr)} (f : Str × NameKind → List (Str × Addr) → Sem (ForInStep (List (Str × Addr))))
    (hf : ∀ n k cs, f (n, k) cs = if k == .free then (match cells.lookup n with | some a => pure (.yield ((n, a) :: cs)) | none => unsupported "internal:no-cell-for-name") else pure (.yield cs)) :
    ∀ (names : List (Str × NameKind)) (acc : List (Str × Addr)), (∀ n, (n, NameKind.free) ∈ names → (cells.lookup n).isSome = true) → forIn names acc f = (pure (clo cells names acc) : Sem _)
  | [], acc, _ => by rw [List.forIn_nil]; rfl
  | (n, k) :: r, acc, h => by
    rw [List.forIn_cons, hf]
    cases hk : (k == NameKind.free) with
    | false =>
      simp only [Bool.false_eq_true, if_false]
      show (pure _ >>= _ : Sem _) = _
      show forIn r acc f = _
      rw [forIn_clo f hf r acc fun n' hn' => h n' (List.mem_cons_of_mem _ hn'), clo, hk]; rfl
    | true =>
      have ek : k = .free := eq_of_beq hk
      subst ek
      obtain ⟨a, ha⟩ := Option.isSome_iff_exists.mp (h n List.mem_cons_self)
      simp only [if_true, ha]
      show forIn r ((n, a) :: acc) f = _
      rw [forIn_clo f hf r _ fun n' hn' => h n' (List.mem_cons_of_mem _ hn'), clo, hk, if_pos rfl, ha]; rfl

theorem closure_eq {sc : Scope} {env : Env} (h : ∀ n, (n, NameKind.free) ∈ sc.names → (env.cells.lookup n).isSome = true) : closureFor sc env = pure (clo env.cells sc.names []) := by
  unfold closureFor
  dsimp only
  rw [forIn_clo (cells := env.cells) _ (fun n k cs => ?_) sc.names [] h]
  · rfl
  · cases hk : (k == NameKind.free) with
    | false => simp only [Bool.false_eq_true, if_false]
    | true =>
      simp only [if_true]
      unfold cellOf
      cases env.cells.lookup n <;> rfl

theorem clo_mem {cells : List (Str × Addr)} : ∀ {names : List (Str × NameKind)} {acc : List (Str × Addr)} {x : Str} {c : Addr}, (∀ n, (n, NameKind.free) ∈ names → (cells.lookup n).isSome = true) → (∀ x c, (x, c) ∈ acc → cells.lookup x = some c) →
    (x, c) ∈ clo cells names acc → cells.lookup x = some c
  | [], _, _, _, _, ha, h => ha _ _ h
  | (n, k) :: r, acc, x, c, hn, ha, h => by
    unfold clo at h
    split at h
    · rename_i hk
      have ek : k = .free := eq_of_beq hk
      subst ek
      refine clo_mem (fun n' hn' => hn n' (List.mem_cons_of_mem _ hn')) (fun x c hm => ?_) h
      rcases List.mem_cons.mp hm with e | hm
      · cases e
        obtain ⟨a, e⟩ := Option.isSome_iff_exists.mp (hn n List.mem_cons_self)
        rw [e]; rfl
      · exact ha x c hm
    · exact clo_mem (fun n' hn' => hn n' (List.mem_cons_of_mem _ hn')) ha h
theorem clo_acc {cells : List (Str × Addr)} : ∀ {names : List (Str × NameKind)} {acc : List (Str × Addr)} {x : Str}, (∃ c, (x, c) ∈ acc) ∨ (x, NameKind.free) ∈ names → ∃ c, (x, c) ∈ clo cells names acc
  | [], _, _, h => h.elim id fun h => nomatch h
  | (n, k) :: r, acc, x, h => by
    unfold clo
    split
    · rename_i hk
      rcases h with ⟨c, h⟩ | h
      · exact clo_acc (.inl ⟨c, List.mem_cons_of_mem _ h⟩)
      · rcases List.mem_cons.mp h with e | h
        · cases e; exact clo_acc (.inl ⟨_, List.mem_cons_self⟩)
        · exact clo_acc (.inr h)
    · rename_i hk
      rcases h with h | h
      · exact clo_acc (.inl h)
      · rcases List.mem_cons.mp h with e | h
        · cases e; exact absurd rfl hk
        · exact clo_acc (.inr h)
theorem lookup_of_mem {α : Type} : ∀ {l : List (Str × α)} {x : Str} {c : α}, (x, c) ∈ l → ∃ c', l.lookup x = some c' ∧ (x, c') ∈ l
  | (n, a) :: r, x, c, h => by
    by_cases e : x = n
    · subst e; exact ⟨a, by simp [List.lookup_cons], List.mem_cons_self⟩
    · rcases List.mem_cons.mp h with q | q
      · cases q; exact absurd rfl e
      · obtain ⟨c', h1, h2⟩ := lookup_of_mem q
        exact ⟨c', by rw [List.lookup_cons, show (x == n) = false by simpa using e]; exact h1, List.mem_cons_of_mem _ h2⟩
theorem mem_of_lookup' {α : Type} : ∀ {l : List (Str × α)} {x : Str} {c : α}, l.lookup x = some c → (x, c) ∈ l
  | (n, a) :: r, x, c, h => by
    rw [List.lookup_cons] at h
    split at h
    · rename_i e
      cases h
      rw [show x = n from eq_of_beq e]; exact List.mem_cons_self
    · exact List.mem_cons_of_mem _ (mem_of_lookup' h)

theorem clo_lookup {cells : List (Str × Addr)} {names : List (Str × NameKind)} (hn : ∀ n, (n, NameKind.free) ∈ names → (cells.lookup n).isSome = true) :
    (∀ x c, (clo cells names []).lookup x = some c → cells.lookup x = some c) ∧ ∀ x, (x, NameKind.free) ∈ names → (clo cells names []).lookup x = cells.lookup x := by
  have h1 : ∀ x c, (clo cells names []).lookup x = some c → cells.lookup x = some c := fun x c h => clo_mem (acc := []) hn (fun _ _ q => by cases q) (mem_of_lookup' h)
  refine ⟨h1, fun x hx => ?_⟩
  obtain ⟨c, hc⟩ := clo_acc (cells := cells) (acc := []) (.inr hx)
  obtain ⟨c', e, _⟩ := lookup_of_mem hc
  rw [e, h1 x c' e]

/-! its names -/
theorem lookup_map {f : Str × NameKind → NameKind} : ∀ {names : List (Str × NameKind)} {x : Str} {k : NameKind}, names.lookup x = some k → (names.map fun p => (p.1, f p)).lookup x = some (f (x, k))
  | (n, a) :: r, x, k, h => by
    rw [List.lookup_cons] at h
    rw [List.map_cons, List.lookup_cons]
    split at h
    · rename_i e
      cases h
      rw [e]
      have : x = n := eq_of_beq e
      subst this
      rfl
    · rename_i e
      rw [e]
      exact lookup_map h
theorem lookup_map' {f : Str × NameKind → NameKind} : ∀ {names : List (Str × NameKind)} {x : Str} {k : NameKind}, (names.map fun p => (p.1, f p)).lookup x = some k → ∃ k₀, names.lookup x = some k₀ ∧ k = f (x, k₀)
  | (n, a) :: r, x, k, h => by
    rw [List.map_cons, List.lookup_cons] at h
    rw [List.lookup_cons]
    split at h
    · rename_i e
      cases h
      have : x = n := eq_of_beq e
      subst this
      simp at e ⊢
    · rename_i e
      rw [e]
      exact lookup_map' h

theorem relab_names (sc outer : Scope) : (relab sc outer).names = sc.names.map fun p => (p.1, if (p.2 == .free && outer.kind == .function && outer.names.lookup p.1 == some .cell) then NameKind.cell else p.2) := by
  unfold relab
  show sc.names.map _ = _
  congr 1
  funext p
  obtain ⟨n, k⟩ := p
  dsimp only
  split <;> rfl

structure CompOk (c : Ctx) (sc : Scope) (ts : List Str) : Prop where
  kind : sc.kind = .function
  nocell : ∀ n k, (n, k) ∈ sc.names → k ≠ .cell
  loc : ∀ n, (n, NameKind.local) ∈ sc.names → sc.names.lookup n = some .local
  free : ∀ n, (n, NameKind.free) ∈ sc.names → c.sc.names.lookup n = some .cell
  ts : ∀ t ∈ ts, sc.names.lookup t = some .local
theorem compOk_of {c : Ctx} {sc : Scope} {ts : List Str} (h : compScope c sc ts = true) : CompOk c sc ts ∧ ts.eraseDups.length = ts.length := by
  unfold compScope at h
  simp only [Bool.and_eq_true, beq_iff_eq, List.all_eq_true] at h
  obtain ⟨⟨⟨h1, h2⟩, h3⟩, h4⟩ := h
  refine ⟨⟨h1, fun n k hm => ?_, fun n hm => ?_, fun n hm => ?_, h3⟩, h4⟩
  · have := h2 (n, k) hm
    simp at this
    exact this.1.1
  · have := h2 (n, .local) hm
    simp at this
    exact this
  · have := h2 (n, .free) hm
    simp at this
    exact this

section
variable {w : World} {base : Heap} {X₀ Y : Addr → Prop} {env : Env} {c : Ctx} {Δ : List Own} {own : Owned} {V : Str → Option Value} {ds : List D} {h h' : Heap} {sc : Scope} {t : Str} {C : Addr} {m : Str → Option Value} {d : D} {v : Value}

noncomputable def innerV (sc : Scope) (m V : Str → Option Value) : Str → Option Value := fun y => if sc.names.lookup y = some .local then m y else V y

theorem inner_kind {sc outer : Scope} {x : Str} {k : NameKind} (hn : ∀ n k, (n, k) ∈ sc.names → k ≠ .cell) (h : (relab sc outer).names.lookup x = some k) :
    (k = .cell → sc.names.lookup x = some .free ∧ outer.names.lookup x = some .cell) ∧ (k = .local → sc.names.lookup x = some .local) := by
  rw [relab_names] at h
  obtain ⟨k₀, h0, e⟩ := lookup_map' h
  refine ⟨fun q => ?_, fun q => ?_⟩
  · rw [q] at e
    split at e
    · rename_i hc
      simp only [Bool.and_eq_true, beq_iff_eq] at hc
      exact ⟨by rw [h0, hc.1.1], hc.2⟩
    · exact absurd e.symm (hn x k₀ (mem_of_lookup' h0))
  · rw [q] at e
    split at e
    · cases e
    · rw [h0]; exact congrArg some e.symm

theorem Fm.inner (F : Fm env h V) (he : env.scope = c.sc) (ok : CompOk c sc [t]) (g : Grow h h') (hC : h.get? C = none) (al : ∀ a, FrameAddr env a → Alloc h a) (hns : h'.Ns C m) :
    Fm (compEnvC sc (clo env.cells sc.names []) C env) h' (innerV sc m V) := by
  have hfree : ∀ n, (n, NameKind.free) ∈ sc.names → (env.cells.lookup n).isSome = true := fun n hn => by
    obtain ⟨a, ha, _⟩ := F.cell n (by unfold Env.kindOf; rw [he]; exact ok.free n hn)
    rw [ha]; rfl
  obtain ⟨c1, c2⟩ := clo_lookup hfree
  refine ⟨by show sc.kind = _; exact ok.kind, ⟨m, hns, fun x hx => ?_⟩, fun x hx => ?_, fun x y a hx hy => F.apart x y a (c1 x a hx) (c1 y a hy), fun x a hx q => ?_⟩
  · have := (inner_kind ok.nocell (show (relab sc env.scope).names.lookup x = _ from hx)).2 rfl
    unfold innerV
    rw [if_pos this]
  · obtain ⟨q1, q2⟩ := (inner_kind ok.nocell (show (relab sc env.scope).names.lookup x = _ from hx)).1 rfl
    obtain ⟨a, ha, hi⟩ := F.cell x q2
    refine ⟨a, (c2 x (mem_of_lookup' q1)).trans ha, ?_⟩
    unfold innerV
    rw [if_neg (by rw [q1]; intro e; cases e)]
    exact hi.keeps g
  · have := al a (.inr ⟨x, c1 x a hx⟩)
    have q' : a = C := q
    rw [q'] at this
    exact not_alloc hC this

theorem inner_frame {a : Addr} (hfree : ∀ n, (n, NameKind.free) ∈ sc.names → (env.cells.lookup n).isSome = true) (q : FrameAddr (compEnvC sc (clo env.cells sc.names []) C env) a) : a = C ∨ FrameAddr env a := by
  rcases q with q | ⟨x, q⟩
  · exact .inl q
  · exact .inr (.inr ⟨x, (clo_lookup hfree).1 x a q⟩)

theorem St.inner (S : St w base X₀ env c.nm Δ own V ds h) (he : env.scope = c.sc) (ok : CompOk c sc [t]) (g : Grow h h') (hC : h.get? C = none) (hns : h'.Ns C m) (hm : m t = some v) (hY : ∀ a, Y a → h.get? a = none ∧ Alloc h' a)
    (r : Rep w h' (fun b => XR X₀ env own [] b ∨ Y b ∨ b = C) d v) :
    St w base (fun a => (X₀ a ∨ FrameAddr env a) ∨ Y a) (compEnvC sc (clo env.cells sc.names []) C env) (c.inner sc [t]).nm (Δ ++ [some 0]) own (innerV sc m V) (ds ++ [d]) h' := by
  have F := S.fm
  have hfree : ∀ n, (n, NameKind.free) ∈ sc.names → (env.cells.lookup n).isSome = true := fun n hn => by
    obtain ⟨a, ha, _⟩ := F.cell n (by unfold Env.kindOf; rw [he]; exact ok.free n hn)
    rw [ha]; rfl
  have aC : Alloc h' C := let ⟨o, _, _, e, _⟩ := hns; ⟨o, e⟩
  have hnm : (c.inner sc [t]).nm = c.nm.map (seen c.sc sc [t]) ++ [some t] := rfl
  have hlen : (c.nm.map (seen c.sc sc [t])).length = c.nm.length := by simp
  have split : ∀ (i : Nat) (x : Str), (c.inner sc [t]).nm[i]? = some (some x) → (i < c.nm.length ∧ c.nm[i]? = some (some x) ∧ x ≠ t ∧ sc.names.lookup x = some .free ∧ c.sc.names.lookup x = some .cell) ∨ (i = c.nm.length ∧ x = t) := by
    intro i x hi
    rw [hnm, List.getElem?_append] at hi
    split at hi
    · rename_i hlt
      rw [hlen] at hlt
      rw [List.getElem?_map] at hi
      obtain ⟨o, ho, e⟩ := mapI hi
      unfold seen at e
      split at e
      · rename_i x'
        split at e
        · rename_i hc
          cases e
          simp only [Bool.and_eq_true, Bool.not_eq_true', beq_iff_eq, List.contains_cons, List.contains_nil, Bool.or_false] at hc
          exact .inl ⟨hlt, ho, by simpa using hc.1.1, hc.1.2, hc.2⟩
        · cases e
      · cases e
    · rename_i hlt
      rw [hlen] at hlt hi
      have : i - c.nm.length = 0 := by
        cases hq : i - c.nm.length with
        | zero => rfl
        | succ k => rw [hq] at hi; simp at hi
      rw [this] at hi
      simp at hi
      exact .inr ⟨by omega, hi.symm⟩
  have xr : ∀ b, XR (fun a => (X₀ a ∨ FrameAddr env a) ∨ Y a) (compEnvC sc (clo env.cells sc.names []) C env) own [] b → XR X₀ env own [] b ∨ Y b ∨ b = C := by
    rintro b (((q | q) | q) | q | q)
    · exact .inl (.inl q)
    · exact .inl (.inr (.inl q))
    · exact .inr (.inl q)
    · rcases inner_frame hfree q with q | q
      · exact .inr (.inr q)
      · exact .inl (.inr (.inl q))
    · exact .inl (.inr (.inr q))
  refine ⟨S.keep.trans g, ?_, F.inner he ok g hC (fun a q => (S.fnew a q).2) hns, ?_, ?_, S.nodup, ?_, ?_, ?_, ?_, ?_, ?_⟩
  · rintro a ((q | q) | q)
    · exact (S.xal a q).grow g
    · exact (S.fnew a q).2.grow g
    · exact (hY a q).2
  · intro a q
    rcases inner_frame hfree q with rfl | q
    · exact ⟨none_of_grow S.keep hC, aC⟩
    · exact ⟨(S.fnew a q).1, (S.fnew a q).2.grow g⟩
  · intro p hp
    obtain ⟨o1, o2, o3, o4⟩ := S.onew p hp
    refine ⟨o1, o2.grow g, fun q => ?_, ?_⟩
    · rcases inner_frame hfree q with q | q
      · exact not_alloc hC (q ▸ o2)
      · exact o3 q
    · rintro ((q | q) | q)
      · exact o4 q
      · exact o3 q
      · exact not_alloc (hY _ q).1 o2
  · intro i x hi
    rcases split i x hi with ⟨_, _, _, q1, q2⟩ | ⟨_, rfl⟩
    · refine .inr ?_
      show (relab sc env.scope).names.lookup x = some .cell
      rw [relab_names, he]
      have := lookup_map (f := fun p => if (p.2 == .free && c.sc.kind == .function && c.sc.names.lookup p.1 == some .cell) then NameKind.cell else p.2) q1
      rw [this]
      have hk : c.sc.kind = .function := by rw [← he]; exact F.kind
      simp [hk, q2]
    · refine .inl ?_
      show (relab sc env.scope).names.lookup x = some .local
      rw [relab_names]
      have := lookup_map (f := fun p => if (p.2 == .free && env.scope.kind == .function && env.scope.names.lookup p.1 == some .cell) then NameKind.cell else p.2) (ok.ts x List.mem_cons_self)
      rw [this]
      simp
  · intro i j x hi hj
    rcases split i x hi with ⟨_, q, hx, _⟩ | ⟨rfl, rfl⟩
    · rcases split j x hj with ⟨_, q', _⟩ | ⟨_, rfl⟩
      · exact S.inj i j x q q'
      · exact absurd rfl hx
    · rcases split j _ hj with ⟨_, _, hx, _⟩ | ⟨rfl, _⟩
      · exact absurd rfl hx
      · rfl
  · rw [hnm, List.length_append, List.length_append, hlen, S.lenΔ]; rfl
  · rw [hnm, List.length_append, List.length_append, hlen, S.lend]; rfl
  · intro p hp
    obtain ⟨n, hn, hl⟩ := S.lev p hp
    refine ⟨n, ?_, hl⟩
    rw [List.getD_eq_getElem?_getD] at hn ⊢
    have : p.2.1 < Δ.length := by
      rcases Nat.lt_or_ge p.2.1 Δ.length with q | q
      · exact q
      · rw [List.getElem?_eq_none q] at hn; cases hn
    rw [List.getElem?_append_left this]; exact hn
  · intro i n x hi hn
    rcases split i x hi with ⟨hlt, q, hx, q1, _⟩ | ⟨rfl, rfl⟩
    · have hlt' : i < Δ.length := by rw [S.lenΔ]; exact hlt
      rw [List.getD_eq_getElem?_getD, List.getElem?_append_left hlt', ← List.getD_eq_getElem?_getD] at hn
      obtain ⟨v', d', e1, e2, r'⟩ := S.slots i n x q hn
      refine ⟨v', d', ?_, ?_, OwnR.mono (g.but _) (fun b o ho z => ?_) (fun a l o z e => ⟨z, g _ _ e⟩) n 0 d' v' r'⟩
      · unfold innerV
        rw [if_neg (by rw [q1]; intro e; cases e)]; exact e1
      · rw [List.getElem?_append_left (by rw [S.lend]; exact hlt)]; exact e2
      · rcases xr b z with z | z | z
        · exact z
        · rw [(hY b z).1] at ho; cases ho
        · rw [z, hC] at ho; cases ho
    · have e : Δ.length = c.nm.length := S.lenΔ
      rw [List.getD_eq_getElem?_getD, List.getElem?_append_right (by omega), e] at hn
      simp at hn
      subst hn
      refine ⟨v, d, ?_, ?_, Rep.less r fun b z => xr b z⟩
      · unfold innerV
        rw [if_pos (ok.ts x List.mem_cons_self)]; exact hm
      · have e : ds.length = c.nm.length := S.lend
        rw [List.getElem?_append_right (by omega), e]; simp
end
end Mine

namespace Mine
open PySem

noncomputable def tests (ifs : List Expr) (env : Env) : Sem Bool := forIn ifs true fun c r => if r = true then do let ok ← isTrue c env (eval c env); pure (ForInStep.yield ok) else pure (ForInStep.yield r)

theorem filterO_append {g : D → Option (Option D)} : ∀ {xs : List D} {rs : List D} {x : D} {o : Option D}, filterO g xs = some rs → g x = some o → filterO g (xs ++ [x]) = some (rs ++ o.toList)
  | [], rs, x, o, h, hx => by
    rw [filterO] at h; cases h
    rw [List.nil_append, filterO, hx]
    cases o <;> rfl
  | y :: xs, rs, x, o, h, hx => by
    rw [filterO] at h
    obtain ⟨oy, hy, h⟩ := bindI h
    obtain ⟨ys, hys, rfl⟩ := mapI h
    rw [List.cons_append, filterO, hy]
    rw [Option.bind_some, filterO_append hys hx]
    cases oy <;> rfl
theorem filterO_some {g : D → Option (Option D)} : ∀ {xs : List D} {rs : List D} {i : Nat} {d : D}, filterO g xs = some rs → xs[i]? = some d → ∃ o, g d = some o
  | [], _, _, _, _, e => by simp at e
  | x :: xs, rs, i, d, h, e => by
    rw [filterO] at h
    obtain ⟨oy, hy, h⟩ := bindI h
    obtain ⟨ys, hys, rfl⟩ := mapI h
    cases i with
    | zero => simp at e; subst e; exact ⟨oy, hy⟩
    | succ i => simp at e; exact filterO_some hys e
theorem filterO_length {g : D → Option (Option D)} : ∀ {xs : List D} {rs : List D}, filterO g xs = some rs → rs.length ≤ xs.length
  | [], rs, h => by rw [filterO] at h; cases h; exact Nat.le_refl _
  | x :: xs, rs, h => by
    rw [filterO] at h
    obtain ⟨oy, hy, h⟩ := bindI h
    obtain ⟨ys, hys, rfl⟩ := mapI h
    have := filterO_length hys
    cases oy <;> simp <;> omega

section
variable {prog : Program} {w : World} {h₀ : Heap} {G : List D} {K : Oracle} {lv : Nat} {c : Ctx}

set_option maxHeartbeats 1600000 in
inductive CompInv (w : World) (g : D → Option (Option D)) (items : List D) (St' : Nat → Heap → Prop) (C da I : Addr) (XX : Addr → Prop) (s₂ : Shared) (n : Nat) (s' : Shared) : Prop
  | mk (i : Nat) (m : Str → Option Value) (vs : Array Value) (rs₀ : List D) (hin : i + n = items.length) (hf : filterO g (items.take i) = some rs₀) (hst : St' i s'.heap) (hns : s'.heap.Ns C m) (hl : s'.heap.PlainList da vs)
    (r : RepL w s'.heap XX rs₀ vs.toList) (e : ∃ h tk, s' = { s₂ with heap := h, toks := tk }) (k : KeepBut (fun b => b = C ∨ b = da ∨ b = I) s₂.heap s'.heap) : CompInv w g items St' C da I XX s₂ n s'
theorem comp_core {A : Around} {E : Value → Shared → Prop} {s : Shared} {env : Env} {base : Heap} {X₀ : Addr → Prop} {Δ : List Own} {own : Owned} {V : Str → Option Value} {ds : List D}
    {elt iter : Expr} {t : Str} {pt : Pos} {ifs : List Expr} {sc : Scope} {pos pos' : Pos} {X : Addr → Prop} {R Re : List (Nat × Nat)} {items rs : List D} {use : Option (Value → Sem Unit)} {Q : Value → Shared → Prop}
    (T : Sit w h₀ lv c A env base X₀ Δ own V ds s) (ok : CompOk c sc [t]) (hs : ∀ x, foldedSetIterable iter env x = pure x)
    (hit : wpAny (model prog w) A (eval iter env) (fun x s₁ => wpAny (model prog w) A (pyIter x) (IterPost prog w X (XR X₀ env own R) items s) E s₁) E s)
    (g : D → Option (Option D)) (hg : filterO g items = some rs)
    (step : ∀ (d : D) (o : Option D), g d = some o → ∀ {X₀' : Addr → Prop} {env' : Env} {own' : Owned} {V' : Str → Option Value} {s' : Shared} {E' : Value → Shared → Prop},
      Sit w h₀ lv (c.inner sc [t]) A env' base X₀' (down R Δ ++ [some 0]) own' V' (ds ++ [d]) s' →
      wpAny (model prog w) A (tests ifs env') (fun b s₃ => b = o.isSome ∧ Keeps s' s₃) E' s' ∧
      ∀ r, o = some r → wpAny (model prog w) A (eval elt env') (fun v s₄ => Keeps s' s₄ ∧ Rep w s₄.heap (XR X₀' env' own' Re) r v) E' s')
    (hend : ∀ (D C : Addr) (m : Str → Option Value) (vs : Array Value) (s' : Shared), Keeps s s' → s.heap.get? D = none → s.heap.get? C = none → D ≠ C → s'.heap.Ns C m → s'.heap.PlainList D vs → rs.length ≤ LIM →
      RepL w s'.heap (fun b => XR X₀ env own (Re ++ R) b ∨ b = D ∨ b = C) rs vs.toList → compPost (model prog w) A E use Q (.ref D) C (.ok .next) s') :
    wpAny (model prog w) A (comprehension (.ListComp elt [⟨.Name t pt, iter, ifs, 0⟩] sc pos) sc env pos' (newList []) false (eval iter env) use) Q E s := by
  have F := T.st.fm
  have hfree : ∀ n, (n, NameKind.free) ∈ sc.names → (env.cells.lookup n).isSome = true := fun n hn => by
    obtain ⟨a, ha, _⟩ := F.cell n (by unfold Env.kindOf; rw [T.e.scope]; exact ok.free n hn)
    rw [ha]; rfl
  refine wpAny_comprehension_free (cl := clo env.cells sc.names []) rfl hs (closure_eq hfree) ok.kind (fun x hx hl => by
    obtain ⟨n, k⟩ := x
    have hl' : k = .local := hl
    subst hl'
    exact ok.loc n hx) (wpAny_mono hit (fun x s₁ h₁ => wpAny_mono h₁ (fun itv s₂ p => ?_) fun _ _ q => q) fun _ _ q => q)
  obtain ⟨hz, I, fp, P, St', rfl, W, hst, k₂, hI, aI, hfp, hAl, hP⟩ := p
  refine wpAny_newObj_type (wpAny_newFunctionEnv (fun x hx => by obtain ⟨n, k⟩ := x; exact ok.nocell n k hx) (by intro y hy; simp at hy) (fun h₁ hns₁ hsb₁ => ?_) ok.kind)
  dsimp only at hns₁ hsb₁ ⊢
  generalize hH2 : s₂.heap.push { cls := .type "list", dict := none, data := .seq ([] : List Value).toArray } = H2 at hns₁ hsb₁ ⊢
  have hsz : H2.objs.size = s₂.heap.objs.size + 1 := by rw [← hH2, Heap.size_push]
  obtain ⟨da, hda⟩ : ∃ a, s₂.heap.objs.size = a := ⟨_, rfl⟩
  obtain ⟨C, hC⟩ : ∃ a, H2.objs.size = a := ⟨_, rfl⟩
  rw [hda, hC] at hsz
  rw [hC] at hns₁ hsb₁
  rw [hda]
  show codeAny _ _ (.compStart _ 0 (.ref I) (.ref da) (compEnvC sc (clo env.cells sc.names []) H2.objs.size env)) (compPost (model prog w) A E use Q (.ref da) H2.objs.size) _
  rw [hC]
  have nD : s₂.heap.get? da = none := hda ▸ none_at
  have nC : s₂.heap.get? C = none := by
    cases e : s₂.heap.get? C with
    | none => rfl
    | some o =>
      have this : @LT.lt Nat _ C s₂.heap.objs.size := Heap.lt_size e
      rw [hda, hsz] at this
      exact absurd this (by omega)
  have hDC : da ≠ C := by omega
  have hID : I ≠ da := fun e => not_alloc nD (e ▸ aI)
  have hIC : I ≠ C := fun e => not_alloc nC (e ▸ aI)
  have g₂ := Keeps.grow k₂
  have nCs : s.heap.get? C = none := none_of_grow g₂ nC
  have nDs : s.heap.get? da = none := none_of_grow g₂ nD
  have old : Grow s₂.heap h₁ := fun b o e => hsb₁.extBut b o (fun q => by rw [q, nC] at e; cases e) (Heap.get?_push_of_some _ (hH2 ▸ Heap.get?_push_of_some _ e))
  have hacc : h₁.PlainList da #[] := ⟨_, hsb₁.extBut _ _ hDC (Heap.get?_push_of_some _ (hH2 ▸ hda ▸ Heap.get?_push_size _ rfl))⟩
  have hst₁ : St' 0 h₁ := (W A T.a.handled).frame _ _ _ hst fun b _ o e => old b o e
  -- the invariant
  let XX : Addr → Prop := fun b => XR X₀ env own (Re ++ R) b ∨ b = da ∨ b = C ∨ b = I
  let Inv : Nat → Shared → Prop := CompInv w g items St' C da I XX s₂
  have grow_of : ∀ s' : Shared, KeepBut (fun b => b = C ∨ b = da ∨ b = I) s₂.heap s'.heap → Grow s.heap s'.heap := fun s' kb b o e => kb b o (by
    rintro (q | q | q)
    · rw [q, nCs] at e; cases e
    · rw [q, nDs] at e; cases e
    · rw [q, hI] at e; cases e) (g₂ _ _ e)
  have loop : ∀ s₃ : Shared, Inv items.length s₃ → codeAny (model prog w) A (.compLoop (.ListComp elt [⟨.Name t pt, iter, ifs, 0⟩] sc pos) 0 (.ref I) (.ref da) (compEnvC sc (clo env.cells sc.names []) C env)) (compPost (model prog w) A E use Q (.ref da) C) s₃ := by
    intro s₃ h₃
    refine codeAny_compLoop_tests Inv (fun n s' inv => ?_) items.length h₃
    obtain ⟨i, m, vs, rs₀, hin, hrs, hsti, hns, hpl, hrl, ⟨hh, tk, rfl⟩, kb⟩ := inv
    by_cases hi : i < items.length
    · refine (W A T.a.handled).item i _ _ _ hi hsti fun v h' tk' hv hst' hk => ?_
      obtain ⟨d, hd, rd⟩ := hP i v hv
      obtain ⟨o, ho⟩ := filterO_some hg hd
      have hkI : KeepBut (fun b => b = I) hh h' := fun b o nb e => hk b o (fun q => nb (List.mem_singleton.mp q)) e
      -- the name is bound
      have hnsC : h'.Ns C m := hns.at' fun o e => hkI _ o (Ne.symm hIC) e
      refine wpAny_assign_Name (wpAny_storeName_local (env := compEnvC sc (clo env.cells sc.names []) C env) ?_ hnsC (fun h'' hn'' hs'' => ?_) ?_)
      · show (relabel sc env).names.lookup t = some .local
        exact lookup_relabel_local (ok.ts t List.mem_cons_self)
      · have hs'' : Heap.SameBut C h' h'' := hs''
        have kI'' : KeepBut (fun b => b = C ∨ b = I) hh h'' := fun b o nb e => hs''.extBut b o (fun q => nb (.inl q)) (hkI b o (fun q => nb (.inr q)) e)
        have kb'' : KeepBut (fun b => b = C ∨ b = da ∨ b = I) s₂.heap h'' := fun b o nb e => kI'' b o (fun q => nb (q.imp id .inr)) (kb b o nb e)
        have G'' : Grow s.heap h'' := grow_of { s₂ with heap := h'' } kb''
        have plD : h''.PlainList da vs := by
          obtain ⟨k, e⟩ := hpl
          exact ⟨k, kI'' _ _ (by rintro (q | q); exact hDC q; exact hID q.symm) e⟩
        have hst'' : St' (i + 1) h'' := (W A T.a.handled).frame _ _ _ hst' fun b hb o e => hs''.extBut b o (by
          rcases hfp b hb with q | ⟨_, q⟩
          · rw [q]; exact hIC
          · intro z; exact not_alloc nC (z ▸ q)) e
        have rd'' : Rep w h'' (fun b => XR X₀ env (own.filter (keepB R)) [] b ∨ (b = I ∨ b = da) ∨ b = C) d v := rd.mono (fun b o nb e => kb'' b o (by
            rintro (q | q | q)
            · rw [q, nC] at e; cases e
            · rw [q, nD] at e; cases e
            · exact nb (.inr q)) e) fun b o hob q => by
          rcases q with q | (q | q) | q
          · exact .inl (XR.unkeep' q)
          · exact .inr q
          · rw [q, nD] at hob; cases hob
          · rw [q, nC] at hob; cases hob
        have S₁ := T.st.down R
        have SI := St.inner (Y := fun a => a = I ∨ a = da) S₁ T.e.scope ok G'' nCs hn'' (by simp) (by
          rintro a (rfl | rfl)
          · exact ⟨hI, (hAl _ _ hst'').alloc⟩
          · exact ⟨nDs, let ⟨k, e⟩ := plD; ⟨_, e⟩⟩) rd''
        have TI : Sit w h₀ lv (c.inner sc [t]) A (compEnvC sc (clo env.cells sc.names []) C env) base _ (down R Δ ++ [some 0]) (own.filter (keepB R)) _ (ds ++ [d]) ({ s₂ with heap := h'', toks := tk' + 1 } : Shared) :=
          ⟨T.a, ⟨T.e.globals, T.e.builtins, by show relab sc env.scope = relab sc c.sc; rw [T.e.scope]⟩, SI, T.gr, by
            rintro a ((q | q) | q)
            · exact T.xn a q
            · exact none_of_grow T.gr (T.st.fnew a q).1
            · rcases q with rfl | rfl
              · exact none_of_grow T.h0 hI
              · exact none_of_grow T.h0 nDs⟩
        have hrl'' : RepL w h'' XX rs₀ vs.toList := hrl.mono (fun b o nb e => kI'' b o (fun q => nb (.inr (.inr q))) e) fun _ _ _ q => q
        have hlen₀ : rs₀.length ≤ i := by
          have := filterO_length hrs
          rw [List.length_take] at this
          omega
        refine wpAny_mono ((step d o ho TI).1) (fun b s₃ p₃ => ?_) fun _ _ q => q
        obtain ⟨rfl, k₃⟩ := p₃
        -- what stands behind the turn
        have after : ∀ (s₄ : Shared) (vs' : Array Value) (o' : List D), o' = o.toList → (∃ h tk, s₄ = { s₂ with heap := h, toks := tk }) → KeepBut (fun b => b = da) h'' s₄.heap → s₄.heap.PlainList da vs' →
            RepL w s₄.heap XX (rs₀ ++ o') vs'.toList → ∃ m', m' < n ∧ Inv m' s₄ := by
          rintro s₄ vs' _ rfl hs₄ kd hpl' hrl'
          refine ⟨n - 1, by omega, i + 1, _, vs', rs₀ ++ o.toList, by omega, ?_, ?_, Heap.Ns.at' hn'' (fun o e => kd _ o (Ne.symm hDC) e), hpl', hrl', hs₄, fun b o nb e => kd b o (fun q => nb (.inr (.inl q))) (kb'' b o nb e)⟩
          · have : items.take (i + 1) = items.take i ++ [d] := by rw [List.take_add_one, hd]; rfl
            rw [this]; exact filterO_append hrs ho
          · refine (W A T.a.handled).frame _ _ _ hst'' fun b hb o e => kd b o (fun q => ?_) e
            rcases hfp b hb with z | ⟨_, z⟩
            · exact hID (z ▸ q)
            · exact not_alloc nD (q ▸ z)
        cases o with
        | none =>
          simp only [Option.isSome_none, Bool.false_eq_true, if_false]
          refine after s₃ vs [] rfl ?_ (fun b o nb e => Keeps.grow k₃ b o e) (plain_grow (Keeps.grow k₃) plD) (by rw [List.append_nil]; exact hrl''.grow (Keeps.grow k₃))
          obtain ⟨h₃, tk₃, rfl, _⟩ := k₃
          exact ⟨_, _, rfl⟩
        | some r =>
          simp only [Option.isSome_some, if_true]
          refine wpAny_mono ((step d (some r) ho (TI.keeps k₃)).2 r rfl) (fun y s₄ p₄ => ?_) fun _ _ q => q
          obtain ⟨k₄, ry⟩ := p₄
          have g₄ := Keeps.grow (Keeps.trans' k₃ k₄)
          have plD₄ := plain_grow g₄ plD
          have hrl₄ := hrl''.grow g₄
          have hlen := hrl₄.length
          rw [Array.length_toList] at hlen
          refine wpAny_list_append_plain plD₄ (fun h₅ hpl₅ hs₅ => ?_) (by rw [← lim_line]; omega)
          refine after _ (vs.push y) [r] rfl ?_ (fun b o nb e => hs₅.extBut b o nb (g₄ b o e)) hpl₅ ?_
          · obtain ⟨h₃, tk₃, e₃, _⟩ := Keeps.trans' k₃ k₄
            rw [e₃]
            exact ⟨_, _, rfl⟩
          · rw [Array.toList_push]
            have k₅ : KeepBut XX s₄.heap h₅ := fun b o nb e => hs₅.extBut b o (fun q => nb (.inr (.inl q))) e
            refine RepL.append (hrl₄.mono k₅ fun _ _ _ q => q) (.cons ?_ .nil)
            refine ry.mono (fun b o nb e => hs₅.extBut b o (fun q => nb (.inl (.inr (.inr q)))) e) fun b o _ q => ?_
            rcases q with q | q | q | q
            · rcases XR.keep q with z | z | z
              · exact .inl (.inl (.inl z))
              · exact .inl (.inl (.inr z))
              · exact .inr (.inr z)
            · exact .inl (.inr (.inr q))
            · exact .inr (.inl (.inl q))
            · exact .inl (.inr (.inl q))
      · have : (relabel sc env).kind = .function := ok.kind
        show ((relabel sc env).kind == .class || ((relabel sc env).kind == .module && C != env.globals)) = false
        rw [this]; rfl
    · have hi' : i = items.length := by omega
      subst hi'
      refine (W A T.a.handled).done _ _ _ hsti fun h' tk' hk => ?_
      rw [List.take_length, hg] at hrs
      cases hrs
      have hkI : KeepBut (fun b => b = I) hh h' := fun b o nb e => hk b o (fun q => nb (List.mem_singleton.mp q)) e
      have kbE : KeepBut (fun b => b = C ∨ b = da ∨ b = I) s₂.heap h' := fun b o nb e => hkI b o (fun q => nb (.inr (.inr q))) (kb b o nb e)
      refine hend da C m vs _ ?_ nDs nCs hDC (hns.at' fun o e => hkI _ o (Ne.symm hIC) e) ?_ ?_ ((hrl.mono (fun b o nb e => hkI b o (fun q => nb (.inr (.inr (.inr q)))) e) fun _ _ _ q => q).less fun b q => ?_)
      · have G' := grow_of { s₂ with heap := h' } kbE
        obtain ⟨h₂, t₂, rfl, _⟩ := k₂
        exact ⟨h', tk', rfl, G'⟩
      · obtain ⟨k, e⟩ := hpl
        exact ⟨k, hkI _ _ (Ne.symm hID) e⟩
      · exact Nat.le_trans (filterO_length hg) hz
      · rcases q with q | q | q
        · exact .inl q
        · exact .inr (.inl q)
        · exact .inr (.inr (.inl q))
  have inv₀ : Inv items.length { s₂ with heap := h₁, toks := s₂.toks + ([] : List (Str × Value)).length } := ⟨0, _, #[], [], by omega, by rw [List.take_zero, filterO], hst₁, hns₁, hacc, RepL.nil, ⟨_, _, rfl⟩, fun b o _ e => old b o e⟩
  exact codeAny_compStart_list (loop _ inv₀) ((W A T.a.handled).self 0 _ _ _ hst₁ (loop _ inv₀))
end
end Mine

namespace Mine
open PySem

noncomputable def isRange : CE → Bool
  | .range1 _ => true
  | .rangeDown _ => true
  | _ => false
section
variable (prog : Program) (w : World) (h₀ : Heap) (G : List D) (K : Oracle) (lv : Nat)
noncomputable def ItOK (c : Ctx) (e : Expr) (ce : CE) : Prop :=
  ∀ {A : Around} {E : Value → Shared → Prop} {s : Shared} {env : Env} {base : Heap} {X₀ : Addr → Prop} {Δ : List Own} {own : Owned} {V : Str → Option Value} {ds items : List D},
    Sit w h₀ lv c A env base X₀ Δ own V ds s → defd Δ ce = true → evalIt G K ce ds = some items →
    wpAny (model prog w) A (eval e env) (fun x s₁ => wpAny (model prog w) A (pyIter x) (IterPost prog w (XR X₀ env own (reach ce)) (XR X₀ env own (elems ce)) items s) E s₁) E s
end

section
variable {prog : Program} {w : World} {h₀ : Heap} {G : List D} {K : Oracle} {lv : Nat} {c : Ctx} {mg mb : Str → Option Value}

theorem it_data {e : Expr} {ce : CE} (h : EvalOK prog w h₀ G K lv c e ce) (hd : ∀ ds items, evalIt G K ce ds = some items → ∃ x, evalC G K ce ds = some x ∧ itemsOf x = some items) : ItOK prog w h₀ G K lv c e ce := by
  intro A E s env base X₀ Δ own V ds items T hdd he
  obtain ⟨x, hx, hi⟩ := hd ds items he
  refine wpAny_mono (h T hdd hx) (fun v s₁ p₁ => ?_) fun _ _ q => q
  exact wpAny_mono (iter_data hi (p₁.rep T.st) (p₁.items T.st)) (fun it s₂ p => p.older p₁.keeps) fun _ _ q => q

theorem evalIt_data {ce : CE} {ds items : List D} (h : evalIt G K ce ds = some items) (h1 : isRange ce = false) : ∃ x, evalC G K ce ds = some x ∧ itemsOf x = some items := by
  cases ce with
  | range1 a => cases h1
  | rangeDown a => cases h1
  | list es => rw [evalIt] at h; exact ⟨.list items, by rw [evalC, h]; rfl, rfl⟩
  | tuple es => rw [evalIt] at h; exact ⟨.tuple items, by rw [evalC, h]; rfl, rfl⟩
  | var i => rw [evalIt] at h; obtain ⟨x, hx, hi⟩ := bindI h; exact ⟨x, by rw [evalC]; exact hx, hi⟩
  | glob i => rw [evalIt] at h; obtain ⟨x, hx, hi⟩ := bindI h; exact ⟨x, by rw [evalC]; exact hx, hi⟩
  | bin op a b => rw [evalIt] at h; obtain ⟨x, hx, hi⟩ := bindI h; exact ⟨x, by rw [evalC]; exact hx, hi⟩
  | call f es => rw [evalIt] at h; obtain ⟨x, hx, hi⟩ := bindI h; exact ⟨x, by rw [evalC]; exact hx, hi⟩
  | fn2 f a b => rw [evalIt] at h; obtain ⟨x, hx, hi⟩ := bindI h; exact ⟨x, by rw [evalC]; exact hx, hi⟩
  | index a b => rw [evalIt] at h; obtain ⟨x, hx, hi⟩ := bindI h; exact ⟨x, by rw [evalC]; exact hx, hi⟩
  | slice a l u => rw [evalIt] at h; obtain ⟨x, hx, hi⟩ := bindI h; exact ⟨x, by rw [evalC]; exact hx, hi⟩
  | _ => rw [evalIt] at h; cases h

theorem rangeSize_up (a b : Int) : Builtin.Range.rangeSize a b 1 = ((b - a).toNat : Int) := by
  unfold Builtin.Range.rangeSize
  rw [if_pos (by decide)]
  split <;> omega

theorem rangeSize_down (a b : Int) : Builtin.Range.rangeSize a b (-1) = ((a - b).toNat : Int) := by
  unfold Builtin.Range.rangeSize
  rw [if_neg (by decide), show (- -1 : Int) = 1 from rfl, Int.ediv_one]
  split <;> omega
theorem small_up {a b : Int} (h1 : a.natAbs ≤ LIM) (h2 : b.natAbs ≤ LIM) : Builtin.Range.small a b 1 = true := by
  have hL : LIM = 16777216 := rfl
  unfold Builtin.Range.small Builtin.Range.rangeFitsLong
  simp [rangeSize_up]; omega

theorem small_down {a b : Int} (h1 : a.natAbs ≤ LIM) (h2 : b.natAbs ≤ LIM) : Builtin.Range.small a b (-1) = true := by
  have hL : LIM = 16777216 := rfl
  unfold Builtin.Range.small Builtin.Range.rangeFitsLong
  simp [rangeSize_down]; omega

theorem it_range1 {e : Expr} {a : CE} (GL : Glo w h₀ mg mb c.gl G) (ha : ∀ x, chkE c x a = true → EvalOK prog w h₀ G K lv c x a) (h : chkE c e (.range1 a) = true) : ItOK prog w h₀ G K lv c e (.range1 a) := by
  unfold chkE at h
  split at h
  · rename_i x y hco
    simp only [Bool.and_eq_true, beq_iff_eq] at h
    obtain ⟨⟨rfl, h2⟩, h3⟩ := h
    obtain ⟨p, q, rfl⟩ := callOf_eq hco
    intro A E s env base X₀ Δ own V ds items T hd he
    rw [evalIt] at he
    rw [defd] at hd
    obtain ⟨dx, hx, he⟩ := bindI he
    split at he
    · rename_i i
      split at he
      · rename_i hk
        cases he
        rw [okLen_iff] at hk
        refine arg1 GL T h2 (fv := .type "range") (List.mem_of_getElem? (i := 13) rfl) h3 (ha y h3) hd hx fun v s₁ p₁ => ?_
        have r := p₁.rep T.st
        rw [Rep] at r
        obtain ⟨t, rfl⟩ := r
        refine call_range_1 ?_
        have kk : Keeps s { s₁ with heap := s₁.heap.push { cls := .type "range", data := .fields #[.int 0 s₁.toks, .int i t, .int 1 (s₁.toks + 1)] }, toks := s₁.toks + 1 + 1 } := Keeps.trans' p₁.keeps ⟨_, _, rfl, push_grow _ _⟩
        refine wpAny_mono (iter_range (n := i.toNat) (IsRange.new _ _ _ _ _ _ _) (small_up (by simp [LIM]) hk) ?_ (by simp [upTo]) (by omega) fun j hj => ?_) (fun it s₂ p => p.older kk) fun _ _ q => q
        · rw [rangeSize_up]; simp
        · simp [upTo, hj]
      · cases he
    · cases he
  · cases h


theorem it_down {e : Expr} {a : CE} (GL : Glo w h₀ mg mb c.gl G) (ha : ∀ x, chkE c x a = true → EvalOK prog w h₀ G K lv c x a) (h : chkE c e (.rangeDown a) = true) : ItOK prog w h₀ G K lv c e (.rangeDown a) := by
  unfold chkE at h
  split at h
  · rename_i x y z u hco
    simp only [Bool.and_eq_true, beq_iff_eq] at h
    obtain ⟨⟨⟨⟨rfl, h2⟩, hz1⟩, hu1⟩, h3⟩ := h
    obtain ⟨p, q, rfl⟩ := callOf_eq hco
    obtain ⟨p1, p2, p3, rfl⟩ := isNeg1_eq hz1
    obtain ⟨p4, p5, p6, rfl⟩ := isNeg1_eq hu1
    intro A E s env base X₀ Δ own V ds items T hd he
    rw [evalIt] at he
    rw [defd] at hd
    obtain ⟨dx, hx, he⟩ := bindI he
    split at he
    · rename_i i
      split at he
      · rename_i hk
        cases he
        rw [okLen_iff] at hk
        refine PyProof.Rows.Call_Name rfl (load_builtin GL T h2 (v := .type "range") (List.mem_of_getElem? (i := 13) rfl) ?_)
        rw [star_of h3]
        refine PyProof.Rows.callWith_type rfl (Calls.evalArgs_plain (Calls.spliced_cons (wpAny_mono (ha y h3 T hd hx) (fun v s₁ p₁ => ?_) fun _ _ q => q)))
        have r := p₁.rep T.st
        rw [Rep] at r
        obtain ⟨t, rfl⟩ := r
        refine Calls.spliced_cons (wpAny_UnaryOp (wpAny_Constant_int (PyProof.Rows.neg_int (Calls.spliced_cons (wpAny_UnaryOp (wpAny_Constant_int (PyProof.Rows.neg_int (Calls.spliced_nil ?_))))))))
        refine call_range_3 (by decide) ?_ (.inl (PyProof.noPylong_small (by decide)))
        have kk : Keeps s { s₁ with heap := s₁.heap.push { cls := .type "range", data := .fields #[.int i t, .int (-1) (s₁.toks + 1), .int (-1) (s₁.toks + 1 + 1 + 1)] }, toks := s₁.toks + 1 + 1 + 1 + 1 } := Keeps.trans' p₁.keeps ⟨_, _, rfl, push_grow _ _⟩
        refine wpAny_mono (iter_range (n := (i + 1).toNat) (IsRange.new _ _ _ _ _ _ _) (small_down (by omega) (by simp [LIM])) ?_ (by simp [downFrom]) (by omega) fun j hj => ?_) (fun it s₂ p => p.older kk) fun _ _ q => q
        · rw [rangeSize_down]; congr 2
        · simp [downFrom, hj]; omega
      · cases he
    · cases he
  · cases h
end
end Mine

namespace Mine
open PySem

mutual
theorem defd_mono {Δ Δ' : List Own} (hl : Δ.length = Δ'.length) (hb : ∀ i, bound Δ i = true → bound Δ' i = true) : ∀ (e : CE), defd Δ e = true → defd Δ' e = true
  | .const _, _ => by rw [defd]
  | .var i, h => by rw [defd] at h ⊢; exact hb i h
  | .glob _, _ => by rw [defd]
  | .not e, h => by rw [defd] at h ⊢; exact defd_mono hl hb e h
  | .neg e, h => by rw [defd] at h ⊢; exact defd_mono hl hb e h
  | .and es, h => by rw [defd] at h ⊢; exact defds_mono hl hb es h
  | .or es, h => by rw [defd] at h ⊢; exact defds_mono hl hb es h
  | .bin _ a b, h => by rw [defd] at h ⊢; simp only [Bool.and_eq_true] at h ⊢; exact ⟨defd_mono hl hb a h.1, defd_mono hl hb b h.2⟩
  | .cmp _ a b, h => by rw [defd] at h ⊢; simp only [Bool.and_eq_true] at h ⊢; exact ⟨defd_mono hl hb a h.1, defd_mono hl hb b h.2⟩
  | .cmp2 _ _ a b c, h => by rw [defd] at h ⊢; simp only [Bool.and_eq_true] at h ⊢; exact ⟨⟨defd_mono hl hb a h.1.1, defd_mono hl hb b h.1.2⟩, defd_mono hl hb c h.2⟩
  | .list es, h => by rw [defd] at h ⊢; exact defds_mono hl hb es h
  | .tuple es, h => by rw [defd] at h ⊢; exact defds_mono hl hb es h
  | .comp elt nt it, h => by
    rw [defd] at h ⊢; simp only [Bool.and_eq_true] at h ⊢
    exact ⟨defd_mono hl hb it h.1, defd_mono (by simp [hl]) (bound_app hl hb nt) elt h.2⟩
  | .call _ es, h => by rw [defd] at h ⊢; exact defds_mono hl hb es h
  | .isinst e _, h => by rw [defd] at h ⊢; exact defd_mono hl hb e h
  | .fn1 _ e, h => by rw [defd] at h ⊢; exact defd_mono hl hb e h
  | .fn2 _ a b, h => by rw [defd] at h ⊢; simp only [Bool.and_eq_true] at h ⊢; exact ⟨defd_mono hl hb a h.1, defd_mono hl hb b h.2⟩
  | .index a i, h => by rw [defd] at h ⊢; simp only [Bool.and_eq_true] at h ⊢; exact ⟨defd_mono hl hb a h.1, defd_mono hl hb i h.2⟩
  | .slice a l u, h => by rw [defd] at h ⊢; simp only [Bool.and_eq_true] at h ⊢; exact ⟨⟨defd_mono hl hb a h.1.1, defd_mono hl hb l h.1.2⟩, defd_mono hl hb u h.2⟩
  | .range1 e, h => by rw [defd] at h ⊢; exact defd_mono hl hb e h
  | .rangeDown a, h => by rw [defd] at h ⊢; exact defd_mono hl hb a h
theorem defds_mono {Δ Δ' : List Own} (hl : Δ.length = Δ'.length) (hb : ∀ i, bound Δ i = true → bound Δ' i = true) : ∀ (es : List CE), defds Δ es = true → defds Δ' es = true
  | [], _ => by rw [defds]
  | e :: es, h => by rw [defds] at h ⊢; simp only [Bool.and_eq_true] at h ⊢; exact ⟨defd_mono hl hb e h.1, defds_mono hl hb es h.2⟩
theorem bound_app {Δ Δ' : List Own} (hl : Δ.length = Δ'.length) (hb : ∀ i, bound Δ i = true → bound Δ' i = true) (nt i : Nat) (h : bound (Δ ++ List.replicate nt (some 0)) i = true) : bound (Δ' ++ List.replicate nt (some 0)) i = true := by
  unfold bound at *
  simp only [List.getD_eq_getElem?_getD] at *
  rcases Nat.lt_or_ge i Δ.length with q | q
  · rw [List.getElem?_append_left (by omega)] at h ⊢
    exact hb i h
  · rw [List.getElem?_append_right (by omega)] at h ⊢
    rw [← hl]; exact h
end
theorem bound_down {R : List (Nat × Nat)} {Δ : List Own} {i : Nat} (h : bound Δ i = true) : bound (down R Δ) i = true := by
  unfold bound at *
  obtain ⟨n, hn⟩ := Option.isSome_iff_exists.mp h
  obtain ⟨n', hn'⟩ := down_isSome (R := R) hn
  rw [hn']; rfl

theorem mapO_filterO {f : D → Option D} : ∀ {xs rs : List D}, mapO f xs = some rs → filterO (fun d => (f d).map some) xs = some rs
  | [], rs, h => by rw [mapO] at h; cases h; rw [filterO]
  | x :: xs, rs, h => by
    rw [mapO] at h
    obtain ⟨y, hy, h⟩ := bindI h
    obtain ⟨ys, hys, rfl⟩ := mapI h
    rw [filterO, hy, Option.map_some, Option.bind_some, mapO_filterO hys]; rfl

section
variable {prog : Program} {w : World} {h₀ : Heap} {G : List D} {K : Oracle} {lv : Nat} {c : Ctx} {mg mb : Str → Option Value}

theorem folded_of {e : Expr} {ce : CE} {env : Env} (h : chkE c e ce = true) : ∀ x, foldedSetIterable e env x = pure x := by
  cases e with
  | Set a k p => rw [bad_set] at h; cases h
  | _ => intro x; rfl

theorem tests_nil {A : Around} {E : Value → Shared → Prop} {s : Shared} {env : Env} {Q : Bool → Shared → Prop} (h : Q true s) : wpAny (model prog w) A (tests [] env) Q E s := by
  unfold tests; rw [List.forIn_nil]; exact wpAny_pure h
/-- what a comprehension leaves -/
theorem comp_new {X₀ : Addr → Prop} {env : Env} {own : Owned} {Δ : List Own} {s : Shared} {R : List (Nat × Nat)} {rs : List D} {D' C : Addr} {vs : Array Value} {s' : Shared} {h' : Heap} {ce : CE} (hr : root ce = none) (hf : fr ce = 1) (hR : reach ce = R)
    (k : Keeps s s') (nD : s.heap.get? D' = none) (nC : s.heap.get? C = none) (hDC : D' ≠ C) (pl : s'.heap.PlainList D' vs) (hz : rs.length ≤ LIM) (r : RepL w s'.heap (fun b => XR X₀ env own R b ∨ b = D' ∨ b = C) rs vs.toList) (hs : Heap.SameBut C s'.heap h') :
    EvalPost w X₀ env own Δ ce (.list rs) s (.ref D') { s' with heap := h' } := by
  refine .new1 ?_ hr hf ⟨D', vs, rfl, nD, hz, ?_, ?_⟩
  · obtain ⟨h₁, tk, rfl, g⟩ := k
    exact ⟨h', tk, rfl, fun b o e => hs.extBut b o (fun q => by rw [q, nC] at e; cases e) (g b o e)⟩
  · obtain ⟨n, e⟩ := pl
    exact ⟨n, hs.extBut _ _ hDC e⟩
  · rw [hR]
    exact r.mono (fun b o nb e => hs.extBut b o (fun q => nb (.inr (.inr q))) e) fun b o _ q => q.imp id .inl

/-- what a comprehension leaves for its use -/
noncomputable def CompEnd (prog : Program) (w : World) (A : Around) (E : Value → Shared → Prop) (X₀ : Addr → Prop) (env : Env) (own : Owned) (R : List (Nat × Nat)) (rs : List D) (use : Option (Value → Sem Unit)) (Q : Value → Shared → Prop) (s : Shared) : Prop :=
  ∀ (D' C : Addr) (m : Str → Option Value) (vs : Array Value) (s' : Shared), Keeps s s' → s.heap.get? D' = none → s.heap.get? C = none → D' ≠ C → s'.heap.Ns C m → s'.heap.PlainList D' vs → rs.length ≤ LIM →
    RepL w s'.heap (fun b => XR X₀ env own R b ∨ b = D' ∨ b = C) rs vs.toList → compPost (model prog w) A E use Q (.ref D') C (.ok .next) s'
variable (prog w h₀ G K lv) in
noncomputable def CompOK (c : Ctx) (e : Expr) (ce : CE) : Prop :=
  ∃ x gens sc p, e = .ListComp x gens sc p ∧ ∀ {A : Around} {E : Value → Shared → Prop} {s : Shared} {env : Env} {base : Heap} {X₀ : Addr → Prop} {Δ : List Own} {own : Owned} {V : Str → Option Value} {ds : List D} {d : D} {use : Option (Value → Sem Unit)} {Q : Value → Shared → Prop},
    Sit w h₀ lv c A env base X₀ Δ own V ds s → defd Δ ce = true → evalC G K ce ds = some d → (∀ rs, d = .list rs → CompEnd prog w A E X₀ env own (reach ce) rs use Q s) →
    wpAny (model prog w) A (comprehension e sc env (firstIterPos gens p) (newList []) (firstAsync gens) (firstIter gens env) use) Q E s

theorem co_comp {e : Expr} {elt it : CE} {nt : Nat} (ha : ∀ c' x, c'.fn = c.fn → c'.gl = c.gl → chkE c' x elt = true → EvalOK prog w h₀ G K lv c' x elt) (hi : ∀ x, chkE c x it = true → ItOK prog w h₀ G K lv c x it) (h : chkE c e (.comp elt nt it) = true) : CompOK prog w h₀ G K lv c e (.comp elt nt it) := by
  unfold chkE at h
  split at h
  · rename_i x t i sc p
    split at h
    · rename_i ts hts
      simp only [Bool.and_eq_true, beq_iff_eq] at h
      obtain ⟨⟨⟨⟨h1, h2⟩, h3⟩, h4⟩, hnm⟩ := h
      obtain ⟨ok, hnd⟩ := compOk_of h2
      refine ⟨_, _, _, _, rfl, ?_⟩
      cases t with
      | Name t pt =>
        cases hts
        simp at h1
        subst h1
        intro A E s env base X₀ Δ own V ds d use Q T hd he hend
        rw [evalC] at he
        rw [defd] at hd
        simp only [Bool.and_eq_true] at hd
        obtain ⟨xs, hx, he⟩ := bindI he
        obtain ⟨rs, hrs, rfl⟩ := mapI he
        refine comp_core (R := elems it) (Re := reach elt) T ok (folded_of h3) (hi i h3 T hd.1 hx) _ (mapO_filterO hrs) (fun d o ho X₀' env' own' V' s' E' T' => ?_) (by
          have := hend rs rfl; unfold CompEnd at this; rw [show reach (.comp elt 1 it) = reach elt ++ elems it by rw [reach]; rfl] at this; exact this)
        obtain ⟨r, hr, rfl⟩ := mapI ho
        rw [show bindT 1 d = some [d] from rfl, Option.bind_some] at hr
        refine ⟨tests_nil ⟨rfl, Keeps.refl' _⟩, fun r' q => ?_⟩
        cases q
        refine wpAny_mono (ha (c.inner sc [t]) x rfl rfl h4 T' ?_ hr) (fun v s₄ p₄ => ⟨p₄.keeps, p₄.rep T'.st⟩) fun _ _ q => q
        exact defd_mono (by simp [down_length]) (bound_app (by simp [down_length]) (fun i => bound_down) 1) elt hd.2
      | Tuple es k pp => cases hnm
      | _ => cases hts
    · cases h
  · cases h

theorem ev_of_comp {e : Expr} {ce : CE} (hr : root ce = none) (hf : fr ce = 1) (hl : ∀ ds d, evalC G K ce ds = some d → ∃ rs, d = .list rs) (h : CompOK prog w h₀ G K lv c e ce) : EvalOK prog w h₀ G K lv c e ce := by
  obtain ⟨x, gens, sc, p, rfl, h⟩ := h
  intro A E s env base X₀ Δ own V ds d T hd he
  obtain ⟨rs, rfl⟩ := hl ds d he
  rw [eval_ListComp]
  refine h T hd he fun rs' q => ?_
  cases q
  exact fun D' C m vs s' k nD nC hDC hns pl hz r => ⟨m, hns, fun h' hs => comp_new hr hf rfl k nD nC hDC pl hz r hs⟩
theorem ev_comp {e : Expr} {elt it : CE} {nt : Nat} (ha : ∀ c' x, c'.fn = c.fn → c'.gl = c.gl → chkE c' x elt = true → EvalOK prog w h₀ G K lv c' x elt) (hi : ∀ x, chkE c x it = true → ItOK prog w h₀ G K lv c x it) (h : chkE c e (.comp elt nt it) = true) : EvalOK prog w h₀ G K lv c e (.comp elt nt it) :=
  ev_of_comp rfl rfl (fun ds d he => by
    rw [evalC] at he
    obtain ⟨xs, hx, he⟩ := bindI he
    obtain ⟨rs, hrs, rfl⟩ := mapI he
    exact ⟨rs, rfl⟩) (co_comp ha hi h)
end
end Mine

namespace Mine
open PySem

section
variable {prog : Program} {w : World} {h₀ : Heap} {G : List D} {K : Oracle} {lv : Nat} {mg mb : Str → Option Value} {fn gl : List Str}

noncomputable def asValue : Expr → Bool
  | .UnaryOp .Not _ _ => false
  | .BoolOp .. => false
  | .IfExp .. => false
  | .Compare .. => false
  | _ => true
theorem asValue_eq {e : Expr} (h : asValue e = true) : ∀ (env : Env) (whole : Sem Value), isTrue e env whole = (do let v ← whole; standAt e.pos; holding [v] (truthy v)) := by
  intro env whole
  cases e with
  | UnaryOp op x p => cases op <;> first | rfl | cases h
  | BoolOp => cases h
  | IfExp => cases h
  | Compare => cases h
  | _ => rfl

theorem both {c : Ctx} {e : Expr} {ce : CE} (h : EvalOK prog w h₀ G K lv c e ce) (hv : asValue e = true) : EvalOK prog w h₀ G K lv c e ce ∧ TrueOK prog w h₀ G K lv c e ce := ⟨h, true_of_ev (asValue_eq hv) h⟩

theorem sz_a {n b a : Nat} (h : b < n + 1) (e : b = 1 + a) : a < n := by omega
theorem sz_b {n b x a : Nat} (h : b < n + 1) (e : b = 1 + x + a) : a < n := by omega
theorem sz_c {n b x a : Nat} (h : b < n + 1) (e : b = 1 + a + x) : a < n := by omega
theorem sz_d {n b x y a : Nat} (h : b < n + 1) (e : b = 1 + x + a + y) : a < n := by omega
theorem sz_e {n b x y a : Nat} (h : b < n + 1) (e : b = 1 + x + y + a) : a < n := by omega
theorem sz_f {n b x y a : Nat} (h : b < n + 1) (e : b = 1 + a + x + y) : a < n := by omega
theorem sz_g {n b x y z u a : Nat} (h : b < n + 1) (e : b = 1 + x + y + a + z + u) : a < n := by omega
theorem sz_h {n b x y z u a : Nat} (h : b < n + 1) (e : b = 1 + x + y + z + a + u) : a < n := by omega
theorem sz_i {n b x y z u a : Nat} (h : b < n + 1) (e : b = 1 + x + y + z + u + a) : a < n := by omega
theorem allOK_of {c : Ctx} : ∀ (es : List CE) (xs : List Expr), (∀ e ∈ es, ∀ x, chkE c x e = true → EvalOK prog w h₀ G K lv c x e ∧ TrueOK prog w h₀ G K lv c x e) → chkEs c xs es = true → AllOK prog w h₀ G K lv c xs es
  | [], [], _, _ => trivial
  | [], _ :: _, _, h => by rw [chkEs] at h; cases h; all_goals (intros; contradiction)
  | _ :: _, [], _, h => by rw [chkEs] at h; cases h; all_goals (intros; contradiction)
  | e :: es, x :: xs, ho, h => by
    rw [chkEs] at h
    simp only [Bool.and_eq_true] at h
    exact ⟨⟨h.1, ho e List.mem_cons_self x h.1⟩, allOK_of es xs (fun e' he' => ho e' (List.mem_cons_of_mem _ he')) h.2⟩

theorem okE (GL : Glo w h₀ mg mb gl G) (KS : KSpec prog w h₀ mg fn lv K) : ∀ (n : Nat) (ce : CE), sizeOf ce < n → ∀ (c : Ctx) (e : Expr), c.fn = fn → c.gl = gl → chkE c e ce = true →
    (EvalOK prog w h₀ G K lv c e ce ∧ TrueOK prog w h₀ G K lv c e ce) ∧ ItOK prog w h₀ G K lv c e ce := by
  intro n
  induction n with
  | zero => intro ce h; exact absurd h (Nat.not_lt_zero _)
  | succ n ih =>
    intro ce hsz c e hfn hgl h
    subst hfn hgl
    have sub : ∀ a : CE, sizeOf a < n → ∀ x, chkE c x a = true → EvalOK prog w h₀ G K lv c x a := fun a ha x hx => (ih a ha c x rfl rfl hx).1.1
    have subT : ∀ a : CE, sizeOf a < n → ∀ x, chkE c x a = true → EvalOK prog w h₀ G K lv c x a ∧ TrueOK prog w h₀ G K lv c x a := fun a ha x hx => (ih a ha c x rfl rfl hx).1
    have subs : ∀ es : List CE, sizeOf es < n → ∀ xs, chkEs c xs es = true → AllOK prog w h₀ G K lv c xs es := fun es he xs hx => allOK_of es xs (fun a ha x hx => subT a (by have := List.sizeOf_lt_of_mem ha; omega) x hx) hx
    have data : ∀ (hb : EvalOK prog w h₀ G K lv c e ce ∧ TrueOK prog w h₀ G K lv c e ce), isRange ce = false → (EvalOK prog w h₀ G K lv c e ce ∧ TrueOK prog w h₀ G K lv c e ce) ∧ ItOK prog w h₀ G K lv c e ce :=
      fun hb h1 => ⟨hb, it_data hb.1 fun ds items he => evalIt_data he h1⟩
    cases ce with
    | const d =>
      refine data (both (ev_const h) ?_) rfl
      unfold chkE at h; split at h <;> first | rfl | cases h
    | var i =>
      refine data (both (ev_var h) ?_) rfl
      unfold chkE at h; split at h <;> first | rfl | cases h
    | glob i =>
      refine data (both (ev_glob GL h) ?_) rfl
      unfold chkE at h; split at h <;> first | rfl | cases h
    | not a => exact data (ev_not (subT a (sz_a hsz rfl)) h) rfl
    | neg a =>
      refine data (both (ev_neg (sub a (sz_a hsz rfl)) h) ?_) rfl
      unfold chkE at h; split at h <;> first | rfl | cases h
    | and es => exact data (ev_and (subs es (sz_a hsz (CE.and.sizeOf_spec _))) h) rfl
    | or es => exact data (ev_or (subs es (sz_a hsz (CE.or.sizeOf_spec _))) h) rfl
    | bin op a b =>
      refine data (both (ev_bin (sub a (sz_d hsz rfl)) (sub b (sz_e hsz rfl)) h) ?_) rfl
      unfold chkE at h; split at h <;> first | rfl | cases h
    | cmp op a b => exact data (ev_cmp (sub a (sz_d hsz rfl)) (sub b (sz_e hsz rfl)) h) rfl
    | cmp2 op op' a b b' => exact data (ev_cmp2 (sub a (sz_g hsz rfl)) (sub b (sz_h hsz rfl)) (sub b' (sz_i hsz rfl)) h) rfl
    | list es =>
      refine data (both (ev_list (fun xs hx => (subs es (sz_a hsz (CE.list.sizeOf_spec _)) xs hx).evals) h) ?_) rfl
      unfold chkE at h; split at h <;> first | rfl | cases h
    | tuple es =>
      refine data (both (ev_tuple (fun xs hx => (subs es (sz_a hsz (CE.tuple.sizeOf_spec _)) xs hx).evals) h) ?_) rfl
      unfold chkE at h; split at h <;> first | rfl | cases h
    | comp elt nt it =>
      refine data (both (ev_comp (fun c' x hf hg hx => (ih elt (sz_f hsz rfl) c' x hf hg hx).1.1) (fun x hx => (ih it (sz_e hsz rfl) c x rfl rfl hx).2) h) ?_) rfl
      unfold chkE at h; split at h <;> first | rfl | cases h
    | call f es =>
      refine data (both (ev_call GL KS (subs es (sz_b hsz (CE.call.sizeOf_spec _ _))) h) ?_) rfl
      unfold chkE at h
      split at h
      · rename_i hco; obtain ⟨p, q, rfl⟩ := callOf_eq hco; rfl
      · cases h
    | isinst a t =>
      refine data (both (ev_isinst GL (sub a (sz_c hsz rfl)) h) ?_) rfl
      unfold chkE at h
      split at h
      · rename_i hco; obtain ⟨p, q, rfl⟩ := callOf_eq hco; rfl
      · cases h
    | fn1 f a =>
      have av : asValue e = true := by
        unfold chkE at h
        cases f <;> dsimp only at h <;> first | (cases h; done) | (split at h <;> first | (rename_i hco; obtain ⟨p, q, rfl⟩ := callOf_eq hco; rfl) | cases h)
      by_cases hf : f = .listRev
      · subst hf
        exact data (both (ev_listRev GL (sub a (sz_b hsz rfl)) h) av) rfl
      · exact data (both (ev_fn1 GL hf (sub a (sz_b hsz rfl)) h) av) rfl
    | fn2 f a b =>
      have av : asValue e = true := by
        unfold chkE at h
        cases f <;> dsimp only at h <;> first | (cases h; done) | (split at h <;> first | (rename_i hco; obtain ⟨p, q, rfl⟩ := callOf_eq hco; rfl) | (rename_i hco; obtain ⟨p, q, rfl, _⟩ := methOf_eq hco; rfl) | cases h)
      exact data (both (ev_fn2 GL (sub a (sz_d hsz rfl)) (sub b (sz_e hsz rfl)) h) av) rfl
    | index a i =>
      refine data (both (ev_index (sub a (sz_c hsz rfl)) (sub i (sz_b hsz rfl)) h) ?_) rfl
      unfold chkE at h; split at h <;> first | rfl | cases h
    | slice a l u =>
      refine data (both (ev_slice (sub a (sz_f hsz rfl)) (sub l (sz_d hsz rfl)) (sub u (sz_e hsz rfl)) h) ?_) rfl
      unfold chkE at h; split at h <;> first | rfl | cases h
    | range1 a =>
      refine ⟨⟨?_, ?_⟩, it_range1 GL (sub a (sz_a hsz rfl)) h⟩
      · intro A E s env base X₀ Δ own V ds d T hd he; rw [evalC] at he; cases he
      · intro A E s env base X₀ Δ own V ds d T hd he; rw [evalC] at he; cases he
    | rangeDown a =>
      refine ⟨⟨?_, ?_⟩, it_down GL (sub a (sz_a hsz rfl)) h⟩
      · intro A E s env base X₀ Δ own V ds d T hd he; rw [evalC] at he; cases he
      · intro A E s env base X₀ Δ own V ds d T hd he; rw [evalC] at he; cases he

theorem evalOK (GL : Glo w h₀ mg mb gl G) (KS : KSpec prog w h₀ mg fn lv K) {c : Ctx} {e : Expr} {ce : CE} (hf : c.fn = fn) (hg : c.gl = gl) (h : chkE c e ce = true) : EvalOK prog w h₀ G K lv c e ce := (okE GL KS _ ce (Nat.lt_succ_self _) c e hf hg h).1.1
theorem trueOK (GL : Glo w h₀ mg mb gl G) (KS : KSpec prog w h₀ mg fn lv K) {c : Ctx} {e : Expr} {ce : CE} (hf : c.fn = fn) (hg : c.gl = gl) (h : chkE c e ce = true) : TrueOK prog w h₀ G K lv c e ce := (okE GL KS _ ce (Nat.lt_succ_self _) c e hf hg h).1.2
theorem itOK (GL : Glo w h₀ mg mb gl G) (KS : KSpec prog w h₀ mg fn lv K) {c : Ctx} {e : Expr} {ce : CE} (hf : c.fn = fn) (hg : c.gl = gl) (h : chkE c e ce = true) : ItOK prog w h₀ G K lv c e ce := (okE GL KS _ ce (Nat.lt_succ_self _) c e hf hg h).2
end
end Mine

namespace Mine
open PySem

section
variable {w : World} {base : Heap} {X₀ : Addr → Prop} {env : Env} {nm : List (Option Str)} {Δ : List Own} {own : Owned} {V V' : Str → Option Value} {ds : List D} {h h' : Heap}

noncomputable def notSlot (i : Nat) (p : Addr × Nat × Nat) : Bool := p.2.1 != i

theorem set_getD_ne {α : Type} {l : List α} {i j : Nat} {x d : α} (h : i ≠ j) : (l.set i x).getD j d = l.getD j d := by
  rw [List.getD_eq_getElem?_getD, List.getD_eq_getElem?_getD, List.getElem?_set_ne h]
theorem set_getD_self {α : Type} {l : List α} {i : Nat} {x d : α} (h : i < l.length) : (l.set i x).getD i d = x := by
  rw [List.getD_eq_getElem?_getD, List.getElem?_set_self h]; rfl

/-- one slot's value is replaced -/
theorem St.replace {N M : List (Addr × Nat)} {i n' : Nat} {x : Str} {v : Value} {d' : D} (S : St w base (fun a => X₀ a ∨ ∃ l, (a, l) ∈ N) env nm Δ own V ds h) (hx : nm[i]? = some (some x)) (hX : ∀ a, X₀ a → ∀ l, (a, l) ∉ N)
    (hN : ∀ p ∈ N, base.get? p.1 = none ∧ ¬ FrameAddr env p.1)
    (F' : Fm env h' V') (hV : ∀ y, y ≠ x → V' y = V y) (hVx : V' x = some v)
    (kb : ∀ b o, ¬ FrameAddr env b → (∀ l, (b, i, l) ∉ own) → h.get? b = some o → h'.get? b = some o) (al : ∀ a, Alloc h a → Alloc h' a)
    (nd : (M.map (·.1)).Nodup) (hM : ∀ p ∈ M, ((∃ l, (p.1, i, l) ∈ own) ∨ ∃ l, (p.1, l) ∈ N) ∧ p.2 < n')
    (r : OwnR w h' (fun b => XR X₀ env (own.filter (notSlot i)) [] b ∨ ∃ l, (b, l) ∈ M) (fun b l => (b, l) ∈ M) n' 0 d' v) :
    St w base X₀ env nm (Δ.set i (some n')) (own.filter (notSlot i) ++ M.map fun p => (p.1, i, p.2)) V' (ds.set i d') h' := by
  have hi : i < nm.length := (List.getElem?_eq_some_iff.mp hx).1
  have nsl : ∀ {p : Addr × Nat × Nat}, p ∈ own.filter (notSlot i) → p ∈ own ∧ p.2.1 ≠ i := fun hp => by
    obtain ⟨h1, h2⟩ := List.mem_filter.mp hp
    exact ⟨h1, by simpa [notSlot] using h2⟩
  have mM : ∀ {b : Addr} {j l : Nat}, (b, j, l) ∈ M.map (fun p => (p.1, i, p.2)) ↔ j = i ∧ (b, l) ∈ M := fun {b j l} => by
    rw [List.mem_map]
    constructor
    · rintro ⟨p, hp, e⟩; cases e; exact ⟨rfl, hp⟩
    · rintro ⟨rfl, hp⟩; exact ⟨_, hp, rfl⟩
  have al' : ∀ a, XR (fun a => X₀ a ∨ ∃ l, (a, l) ∈ N) env own [] a → Alloc h' a := fun a q => al a (S.xr_al a q)
  have disj : ∀ {b : Addr} {l : Nat}, (b, l) ∈ M → ∀ {j l' : Nat}, (b, j, l') ∈ own → j = i := fun {b l} hb {j l'} ho => by
    rcases (hM _ hb).1 with ⟨k, hk⟩ | ⟨k, hk⟩
    · have : (b, j, l') = (b, i, k) := nodup_inj S.nodup ho hk rfl
      cases this; rfl
    · exact absurd (.inr ⟨k, hk⟩) (S.onew _ ho).2.2.2
  have xr' : ∀ b, XR X₀ env (own.filter (notSlot i) ++ M.map fun p => (p.1, i, p.2)) [] b → XR X₀ env (own.filter (notSlot i)) [] b ∨ ∃ l, (b, l) ∈ M := by
    rintro b (q | q | ⟨j, l, hm, hc⟩)
    · exact .inl (.inl q)
    · exact .inl (.inr (.inl q))
    · rcases List.mem_append.mp hm with hm | hm
      · exact .inl (.inr (.inr ⟨j, l, hm, hc⟩))
      · exact .inr ⟨l, (mM.mp hm).2⟩
  refine ⟨fun b o e => kb b o (fun q => ?_) (fun l q => ?_) (S.keep b o e), fun a q => al a (S.xal a (.inl q)), F', fun a q => ⟨(S.fnew a q).1, al a (S.fnew a q).2⟩, ?_, ?_, S.vars, S.inj, ?_, ?_, ?_, ?_⟩
  · rw [(S.fnew b q).1] at e; cases e
  · rw [(S.onew _ q).1] at e; cases e
  · intro p hp
    rcases List.mem_append.mp hp with hp | hp
    · obtain ⟨o1, o2, o3, o4⟩ := S.onew p (nsl hp).1
      exact ⟨o1, al _ o2, o3, fun q => o4 (.inl q)⟩
    · obtain ⟨q, hq, rfl⟩ := List.mem_map.mp hp
      rcases (hM q hq).1 with ⟨l, hl⟩ | ⟨l, hl⟩
      · obtain ⟨o1, o2, o3, o4⟩ := S.onew _ hl
        exact ⟨o1, al _ o2, o3, fun q => o4 (.inl q)⟩
      · exact ⟨(hN _ hl).1, al _ (S.xal _ (.inr ⟨l, hl⟩)), (hN _ hl).2, fun q => hX _ q l hl⟩
  · rw [List.map_append, List.nodup_append]
    refine ⟨S.nodup.sublist ((List.filter_sublist).map _), by rw [List.map_map]; exact nd, ?_⟩
    intro a ha b hb e
    subst e
    obtain ⟨p, hp, e1⟩ := List.mem_map.mp ha
    obtain ⟨q, hq, e2⟩ := List.mem_map.mp hb
    obtain ⟨q', hq', rfl⟩ := List.mem_map.mp hq
    have e2' : q'.1 = a := e2
    obtain ⟨b', j, l⟩ := p
    have e1' : b' = a := e1
    subst e1'
    exact (nsl hp).2 (disj (l := q'.2) (by rw [← e2']; exact hq') (nsl hp).1)
  · rw [List.length_set]; exact S.lenΔ
  · rw [List.length_set]; exact S.lend
  · intro p hp
    rcases List.mem_append.mp hp with hp | hp
    · obtain ⟨n, hn, hl⟩ := S.lev p (nsl hp).1
      exact ⟨n, by rw [set_getD_ne (Ne.symm (nsl hp).2)]; exact hn, hl⟩
    · obtain ⟨q, hq, rfl⟩ := List.mem_map.mp hp
      exact ⟨n', set_getD_self (by rw [S.lenΔ]; exact hi), (hM q hq).2⟩
  · intro j n y hy hn
    by_cases hj : i = j
    · subst hj
      rw [set_getD_self (by rw [S.lenΔ]; exact hi)] at hn
      cases hn
      have : y = x := by rw [hx] at hy; cases hy; rfl
      subst this
      refine ⟨v, d', hVx, by rw [List.getElem?_set_self (by rw [S.lend]; exact hi)], OwnR.mono (fun _ _ _ e => e) (fun b o _ q => xr' b q) (fun a l o q e => ⟨List.mem_append_right _ (mM.mpr ⟨rfl, q⟩), e⟩) n' 0 d' v r⟩
    · rw [set_getD_ne hj] at hn
      obtain ⟨v₀, d₀, e1, e2, r₀⟩ := S.slots j n y hy hn
      have hyx : y ≠ x := fun e => hj (S.inj i j x hx (e ▸ hy))
      refine ⟨v₀, d₀, (hV y hyx).trans e1, by rw [List.getElem?_set_ne hj]; exact e2, OwnR.mono (fun b o nb e => kb b o (fun q => nb (.inr (.inl q))) (fun l q => nb (.inr (.inr ⟨i, l, q, fun ⟨_, _, z⟩ => nomatch z⟩))) e) (fun b o ho q => ?_) (fun a l o q e => ?_) n 0 d₀ v₀ r₀⟩
      · rcases xr' b q with q | ⟨l, q⟩
        · rcases q with q | q | ⟨j', l', hm, hc⟩
          · exact .inl (.inl q)
          · exact .inr (.inl q)
          · exact .inr (.inr ⟨j', l', (nsl hm).1, hc⟩)
        · rcases (hM _ q).1 with ⟨k, hk⟩ | hk
          · exact .inr (.inr ⟨i, k, hk, fun ⟨_, _, z⟩ => nomatch z⟩)
          · exact .inl (.inr hk)
      · refine ⟨List.mem_append_left _ (List.mem_filter.mpr ⟨q, by simpa [notSlot] using Ne.symm hj⟩), kb a o (S.onew _ q).2.2.1 (fun l' z => ?_) e⟩
        have : (a, j, l) = (a, i, l') := nodup_inj S.nodup q z rfl
        cases this
        exact hj rfl

/-- a name is stored -/
theorem Fm.storeA {M : Model} {A : Around} {E : Value → Shared → Prop} {s : Shared} {x : Str} {v : Value} {Q : Unit → Shared → Prop} (F : Fm env s.heap V) (hx : isVar env x)
    (h : ∀ h' tk, Fm env h' (upd V x v) → KeepBut (FrameAddr env) s.heap h' → (∀ a, Alloc s.heap a → Alloc h' a) → Q () { s with heap := h', toks := tk }) : wpAny M A (storeName env x v) Q E s := by
  have hp : (env.scope.kind == .class || (env.scope.kind == .module && env.locals != env.globals)) = false := by rw [F.kind]; rfl
  rcases hx with hx | hx
  · obtain ⟨m, hn, hm⟩ := F.ns
    refine wpAny_storeName_local hx hn (fun h' hn' hs => h h' _ ⟨F.kind, ⟨_, hn', fun y hy => ?_⟩, fun y hy => ?_, F.apart, F.lc⟩ (fun b o nb e => ?_) fun a q => ?_) hp
    · show (if y = x then some v else m y) = (if y = x then some v else V y)
      rw [hm y hy]
    · obtain ⟨c, hc, hi⟩ := F.cell y hy
      refine ⟨c, hc, ?_⟩
      have : y ≠ x := fun e => by rw [e, hx] at hy; cases hy
      show h'.IsCell c (if y = x then some v else V y)
      rw [if_neg this]
      exact hi.sameBut hs (F.lc y c hc)
    · exact hs.extBut b o (fun q => nb (.inl q)) e
    · by_cases e : a = env.locals
      · rw [e]; obtain ⟨o, _, _, q, _⟩ := hn'; exact ⟨o, q⟩
      · obtain ⟨o, q⟩ := q; exact ⟨o, hs.extBut a o e q⟩
  · obtain ⟨c, hc, hi⟩ := F.cell x hx
    refine wpAny_storeName_cell F.kind hx hc hi fun h' hi' hs => h h' s.toks ⟨F.kind, ?_, fun y hy => ?_, F.apart, F.lc⟩ (fun b o nb e => ?_) fun a q => ?_
    · obtain ⟨m, hn, hm⟩ := F.ns
      refine ⟨m, hn.sameBut hs (Ne.symm (F.lc x c hc)), fun y hy => ?_⟩
      have : y ≠ x := fun e => by rw [e, hx] at hy; cases hy
      show m y = (if y = x then some v else V y)
      rw [if_neg this, hm y hy]
    · obtain ⟨c', hc', hi''⟩ := F.cell y hy
      refine ⟨c', hc', ?_⟩
      show h'.IsCell c' (if y = x then some v else V y)
      by_cases q : y = x
      · subst q
        rw [hc] at hc'; cases hc'
        rw [if_pos rfl]; exact hi'
      · rw [if_neg q]
        exact hi''.sameBut hs fun e => q (F.apart y x c (e ▸ hc') hc)
    · exact hs.extBut b o (fun q => nb (.inr ⟨x, q ▸ hc⟩)) e
    · by_cases e : a = c
      · rw [e]; obtain ⟨o, q, _⟩ := hi'; exact ⟨o, q⟩
      · obtain ⟨o, q⟩ := q; exact ⟨o, hs.extBut a o e q⟩
end
end Mine

namespace Mine
open PySem

section
variable {w : World} {base base' : Heap} {X₀ X₁ : Addr → Prop} {env : Env} {nm : List (Option Str)} {Δ Δ' : List Own} {own : Owned} {V : Str → Option Value} {ds : List D} {h h' : Heap}

noncomputable def leD (Δ' Δ : List Own) : Prop := Δ'.length = Δ.length ∧ ∀ i m, Δ'.getD i none = some m → ∃ n, Δ.getD i none = some n ∧ m ≤ n
theorem leD.refl (Δ : List Own) : leD Δ Δ := ⟨rfl, fun _ m h => ⟨m, h, Nat.le_refl _⟩⟩
theorem leD.trans {a b c : List Own} (x : leD a b) (y : leD b c) : leD a c := ⟨x.1.trans y.1, fun i m h => by
  obtain ⟨n, hn, h1⟩ := x.2 i m h
  obtain ⟨k, hk, h2⟩ := y.2 i n hn
  exact ⟨k, hk, Nat.le_trans h1 h2⟩⟩
theorem joinD_le : ∀ {a b : List Own}, a.length = b.length → leD (joinD a b) a ∧ leD (joinD a b) b
  | [], [], _ => ⟨.refl _, .refl _⟩
  | x :: a, y :: b, h => by
    have hl : a.length = b.length := by simpa using h
    obtain ⟨h1, h2⟩ := joinD_le hl
    rw [joinD]
    refine ⟨⟨by simp [h1.1], fun i m q => ?_⟩, ⟨by simp [h2.1], fun i m q => ?_⟩⟩
    · cases i with
      | zero =>
        simp only [List.getD_cons_zero] at q ⊢
        unfold joinO at q
        split at q
        · cases q; exact ⟨_, rfl, Nat.min_le_left _ _⟩
        · cases q
      | succ i => simp only [List.getD_cons_succ] at q ⊢; exact h1.2 i m q
    · cases i with
      | zero =>
        simp only [List.getD_cons_zero] at q ⊢
        unfold joinO at q
        split at q
        · cases q; exact ⟨_, rfl, Nat.min_le_right _ _⟩
        · cases q
      | succ i => simp only [List.getD_cons_succ] at q ⊢; exact h2.2 i m q
  | [], _ :: _, h => by simp at h
  | _ :: _, [], h => by simp at h

noncomputable def keepD (Δ : List Own) (p : Addr × Nat × Nat) : Bool := match Δ.getD p.2.1 none with | some m => decide (p.2.2 < m) | none => false

theorem St.weak (S : St w base X₀ env nm Δ own V ds h) (hl : leD Δ' Δ) : St w base X₀ env nm Δ' (own.filter (keepD Δ')) V ds h where
  keep := S.keep
  xal := S.xal
  fm := S.fm
  fnew := S.fnew
  onew := fun p q => S.onew p (mof q)
  nodup := S.nodup.sublist ((List.filter_sublist).map _)
  vars := S.vars
  inj := S.inj
  lenΔ := hl.1.trans S.lenΔ
  lend := S.lend
  lev := fun p q => by
    have k := (List.mem_filter.mp q).2
    unfold keepD at k
    split at k
    · rename_i m hm; exact ⟨m, hm, of_decide_eq_true k⟩
    · cases k
  slots := fun i m x hx hm => by
    obtain ⟨n, hn, hmn⟩ := hl.2 i m hm
    obtain ⟨v, d, e1, e2, r⟩ := S.slots i n x hx hn
    refine ⟨v, d, e1, e2, OwnR.drop (fun b q => ?_) n 0 m d v hmn (fun a j q _ hj => ?_) (fun a j q hj y => ?_) r⟩
    · rcases q with q | q | ⟨i', l', hm', hc⟩
      · exact .inl q
      · exact .inr (.inl q)
      · exact .inr (.inr ⟨i', l', mof hm', hc⟩)
    · refine List.mem_filter.mpr ⟨q, ?_⟩
      show keepD Δ' (a, i, j) = true
      unfold keepD
      dsimp only
      rw [hm]
      exact decide_eq_true (by omega)
    · rcases y with y | y | ⟨i', l', hm', _⟩
      · exact (S.onew _ q).2.2.2 y
      · exact (S.onew _ q).2.2.1 y
      · have : (a, i, j) = (a, i', l') := nodup_inj S.nodup q (mof hm') rfl
        cases this
        have k := (List.mem_filter.mp hm').2
        unfold keepD at k
        dsimp only at k
        rw [hm] at k
        have := of_decide_eq_true k
        omega

theorem St.rebase (S : St w base' X₀ env nm Δ own V ds h) (g : Grow base base') : St w base X₀ env nm Δ own V ds h :=
  ⟨g.trans S.keep, S.xal, S.fm, fun a q => ⟨none_of_grow g (S.fnew a q).1, (S.fnew a q).2⟩, fun p q => ⟨none_of_grow g (S.onew p q).1, (S.onew p q).2⟩, S.nodup, S.vars, S.inj, S.lenΔ, S.lend, S.lev, S.slots⟩

theorem St.touch {I : Addr} (S : St w base X₀ env nm Δ own V ds h) (hI : X₀ I) (nf : ¬ FrameAddr env I) (nb : base.get? I = none) (k : ∀ b o, b ≠ I → h.get? b = some o → h'.get? b = some o) (hX : ∀ a, X₁ a → X₀ a) (al : ∀ a, X₁ a → Alloc h' a) :
    St w base X₁ env nm Δ own V ds h' where
  keep := fun b o e => k b o (fun q => by rw [q, nb] at e; cases e) (S.keep b o e)
  xal := al
  fm := S.fm.keep fun b o q e => k b o (fun z => nf (z ▸ q)) e
  fnew := fun a q => ⟨(S.fnew a q).1, let ⟨o, e⟩ := (S.fnew a q).2; ⟨o, k a o (fun z => nf (z ▸ q)) e⟩⟩
  onew := fun p q => ⟨(S.onew p q).1, (let ⟨o, e⟩ := (S.onew p q).2.1; ⟨o, k _ o (fun z => (S.onew p q).2.2.2 (z ▸ hI)) e⟩), (S.onew p q).2.2.1, fun z => (S.onew p q).2.2.2 (hX _ z)⟩
  nodup := S.nodup
  vars := S.vars
  inj := S.inj
  lenΔ := S.lenΔ
  lend := S.lend
  lev := S.lev
  slots := fun i n x hx hn => by
    obtain ⟨v, d, e1, e2, r⟩ := S.slots i n x hx hn
    refine ⟨v, d, e1, e2, OwnR.mono (fun b o nb e => k b o (fun q => nb (.inl (q ▸ hI))) e) (fun b o _ q => ?_) (fun a l o q e => ⟨q, k _ _ (fun z => (S.onew _ q).2.2.2 (show X₀ a from z ▸ hI)) e⟩) n 0 d v r⟩
    rcases q with q | q | q
    · exact .inl (hX _ q)
    · exact .inr (.inl q)
    · exact .inr (.inr q)

open Classical in
noncomputable def cutHeap (h : Heap) (P : Addr → Prop) : Heap := { h with objs := h.objs.mapIdx fun a o => if P a then { o with data := .freed } else o }
open Classical in
theorem cutHeap_get {h : Heap} {P : Addr → Prop} {a : Addr} : (cutHeap h P).get? a = if P a then none else h.get? a := by
  unfold cutHeap Heap.get?
  dsimp only
  rw [Array.getElem?_mapIdx]
  cases e : h.objs[a]? with
  | none => simp
  | some o =>
    by_cases hp : P a
    · simp [hp]
    · simp [hp]

/-- all that is neither the frame's nor owned may be held fast -/
theorem St.fast (S : St w base X₀ env nm Δ own V ds h) : ∃ base', Grow base base' ∧ Grow base' h ∧ St w base' X₀ env nm Δ own V ds h ∧ ∀ b o, ¬ FrameAddr env b → (∀ i l, (b, i, l) ∉ own) → h.get? b = some o → base'.get? b = some o := by
  have hn : ∀ a, (FrameAddr env a ∨ ∃ i l, (a, i, l) ∈ own) → (cutHeap h fun a => FrameAddr env a ∨ ∃ i l, (a, i, l) ∈ own).get? a = none := fun a q => by rw [cutHeap_get, if_pos q]
  have g : Grow (cutHeap h fun a => FrameAddr env a ∨ ∃ i l, (a, i, l) ∈ own) h := fun b o e => by
    rw [cutHeap_get] at e
    split at e
    · cases e
    · exact e
  refine ⟨cutHeap h fun a => FrameAddr env a ∨ ∃ i l, (a, i, l) ∈ own, fun b o e => ?_, g, ⟨g, S.xal, S.fm, fun a q => ⟨hn a (.inl q), (S.fnew a q).2⟩, fun p q => ⟨hn _ (.inr ⟨_, _, q⟩), (S.onew p q).2⟩, S.nodup, S.vars, S.inj, S.lenΔ, S.lend, S.lev, S.slots⟩, fun b o nf no e => ?_⟩
  · rw [cutHeap_get, if_neg]
    · exact S.keep b o e
    · rintro (q | ⟨i, l, q⟩)
      · rw [(S.fnew b q).1] at e; cases e
      · rw [(S.onew _ q).1] at e; cases e
  · rw [cutHeap_get, if_neg]
    · exact e
    · rintro (q | ⟨i, l, q⟩)
      · exact nf q
      · exact no i l q
end

noncomputable def Same (s s' : Shared) : Prop := ∃ h tk, s' = { s with heap := h, toks := tk }
theorem Same.refl (s : Shared) : Same s s := ⟨s.heap, s.toks, rfl⟩
theorem Same.trans {a b c : Shared} (x : Same a b) (y : Same b c) : Same a c := by
  obtain ⟨h, t, rfl⟩ := x
  obtain ⟨h', t', rfl⟩ := y
  exact ⟨h', t', rfl⟩
theorem Same.keeps {s s' : Shared} (k : Keeps s s') : Same s s' := let ⟨h, t, e, _⟩ := k; ⟨h, t, e⟩
theorem Same.to {s s' : Shared} (x : Same s s') (g : Grow s.heap s'.heap) : Keeps s s' := by
  obtain ⟨h, t, rfl⟩ := x
  exact ⟨h, t, rfl, g⟩

inductive NextP (w : World) (base : Heap) (X₀ : Addr → Prop) (env : Env) (nm : List (Option Str)) (fall : Fall) (ds' : List D) (f : Flow) (h' : Heap) : Prop
  | mk (e : f = .next) (Δ' : List Own) (own' : Owned) (V' : Str → Option Value) (e' : fall = some Δ') (S : St w base X₀ env nm Δ' own' V' ds' h') : NextP w base X₀ env nm fall ds' f h'
inductive RetP (w : World) (base : Heap) (X₀ : Addr → Prop) (d : D) (f : Flow) (h' : Heap) : Prop
  | mk (v : Value) (e : f = .ret v) (g : Grow base h') (al : ∀ a, X₀ a → Alloc h' a) (r : Rep w h' X₀ d v) : RetP w base X₀ d f h'
/-- what a statement leaves -/
noncomputable def StPost (w : World) (base : Heap) (X₀ : Addr → Prop) (env : Env) (nm : List (Option Str)) (fall : Fall) (o : Out) (s : Shared) (f : Flow) (s' : Shared) : Prop :=
  Same s s' ∧ match o with
    | .next ds' => NextP w base X₀ env nm fall ds' f s'.heap
    | .ret d => RetP w base X₀ d f s'.heap

theorem StPost.older {w : World} {base : Heap} {X₀ : Addr → Prop} {env : Env} {nm : List (Option Str)} {fall : Fall} {o : Out} {s s₁ s' : Shared} {f : Flow} (x : Same s s₁) (p : StPost w base X₀ env nm fall o s₁ f s') : StPost w base X₀ env nm fall o s f s' := ⟨x.trans p.1, p.2⟩

noncomputable def leF (a b : Fall) : Prop := ∀ Δ, b = some Δ → ∃ Δ', a = some Δ' ∧ leD Δ' Δ
theorem StPost.weak {w : World} {base : Heap} {X₀ : Addr → Prop} {env : Env} {nm : List (Option Str)} {fall fall' : Fall} {o : Out} {s s' : Shared} {f : Flow} (p : StPost w base X₀ env nm fall o s f s') (hl : leF fall' fall) : StPost w base X₀ env nm fall' o s f s' := by
  refine ⟨p.1, ?_⟩
  cases o with
  | next ds' =>
    obtain ⟨e, Δ', own', V', e', S⟩ := p.2
    obtain ⟨Δ'', e'', l⟩ := hl _ e'
    exact ⟨e, Δ'', _, V', e'', S.weak l⟩
  | ret d => exact p.2
theorem joinF_le {a b : Fall} {n : Nat} (ha : ∀ Δ, a = some Δ → Δ.length = n) (hb : ∀ Δ, b = some Δ → Δ.length = n) : leF (joinF a b) a ∧ leF (joinF a b) b := by
  cases a with
  | none => cases b with
    | none => exact ⟨(fun _ q => by cases q), (fun _ q => by cases q)⟩
    | some b => exact ⟨(fun _ q => by cases q), (fun Δ q => by cases q; exact ⟨_, rfl, .refl _⟩)⟩
  | some a => cases b with
    | none => exact ⟨(fun Δ q => by cases q; exact ⟨_, rfl, .refl _⟩), (fun _ q => by cases q)⟩
    | some b =>
      obtain ⟨h1, h2⟩ := joinD_le ((ha a rfl).trans (hb b rfl).symm)
      exact ⟨(fun Δ q => by cases q; exact ⟨_, rfl, h1⟩), (fun Δ q => by cases q; exact ⟨_, rfl, h2⟩)⟩
theorem fixD_spec {f : List Own → Option Fall} : ∀ {n : Nat} {Δ Δs : List Own}, fixD f n Δ = some Δs → leD Δs Δ ∧ ∃ r, f Δs = some r ∧ leF (some Δs) r
  | 0, _, _, h => by cases h
  | n + 1, Δ, Δs, h => by
    rw [fixD] at h
    obtain ⟨r, hr, h⟩ := bindI h
    cases r with
    | none => cases h; exact ⟨.refl _, none, hr, fun _ q => by cases q⟩
    | some Δ' =>
      dsimp only at h
      split at h
      · rename_i hl
        split at h
        · rename_i hj
          cases h
          refine ⟨.refl _, _, hr, fun _ q => ?_⟩
          cases q
          exact ⟨_, rfl, by have := (joinD_le hl.symm).2; rw [hj] at this; exact this⟩
        · obtain ⟨h1, h2⟩ := fixD_spec h
          exact ⟨h1.trans (joinD_le hl.symm).1, h2⟩
      · cases h
end Mine

namespace Mine
open PySem

section
variable {w : World} {base : Heap} {X₀ X₁ : Addr → Prop} {env : Env} {nm : List (Option Str)} {Δ : List Own} {own : Owned} {V V' : Str → Option Value} {ds : List D} {h h' : Heap}

theorem St.xiff (S : St w base X₀ env nm Δ own V ds h) (hx : ∀ a, X₀ a ↔ X₁ a) : St w base X₁ env nm Δ own V ds h := by
  have : X₀ = X₁ := funext fun a => propext (hx a)
  exact this ▸ S

/-- fresh below a depth: what lies deeper is given up -/
theorem fresh_cut {X : Addr → Prop} {new : List (Addr × Nat)} {n : Nat} {d : D} {v : Value} (nd : (new.map (·.1)).Nodup) (hx : ∀ p ∈ new, ¬ X p.1) (r : OwnR w h (fun b => X b ∨ ∃ l, (b, l) ∈ new) (fun b l => (b, l) ∈ new) n 0 d v) :
    OwnR w h (fun b => X b ∨ ∃ l, (b, l) ∈ new.filter (fun p => decide (p.2 < n))) (fun b l => (b, l) ∈ new.filter (fun p => decide (p.2 < n))) n 0 d v := by
  refine OwnR.drop (fun b q => q.imp id fun ⟨l, q⟩ => ⟨l, mof q⟩) n 0 n d v (Nat.le_refl _) (fun a j q _ hj => List.mem_filter.mpr ⟨q, by simpa using hj⟩) (fun a j q hj y => ?_) r
  rcases y with y | ⟨l, y⟩
  · exact hx _ q y
  · have : (a, j) = (a, l) := nodup_inj nd q (mof y) rfl
    cases this
    have := (List.mem_filter.mp y).2
    simp at this
    omega

theorem St.store {N : List (Addr × Nat)} {R : List (Nat × Nat)} {i n : Nat} {x : Str} {v : Value} {d : D} (S : St w base (fun a => X₁ a ∨ ∃ l, (a, l) ∈ N) env nm Δ own V ds h) (hx : nm[i]? = some (some x)) (hX : ∀ a, X₁ a → ∀ l, (a, l) ∉ N)
    (hN : ∀ p ∈ N, base.get? p.1 = none ∧ ¬ FrameAddr env p.1) (nd : (N.map (·.1)).Nodup) (r : OwnR w h (fun b => XR X₁ env own R b ∨ ∃ l, (b, l) ∈ N) (fun b l => (b, l) ∈ N) n 0 d v)
    (F' : Fm env h' V') (hV : ∀ y, y ≠ x → V' y = V y) (hVx : V' x = some v) (kb : KeepBut (FrameAddr env) h h') (al : ∀ a, Alloc h a → Alloc h' a) :
    ∃ own', St w base X₁ env nm ((Mine.down R Δ).set i (some n)) own' V' (ds.set i d) h' := by
  have S' := S.down R
  have nx : ∀ p ∈ N, ¬ XR X₁ env own R p.1 := fun p hp q => by
    rcases q with q | q | ⟨j, l, hm, _⟩
    · exact hX _ q p.2 hp
    · exact (hN p hp).2 q
    · exact (S.onew _ hm).2.2.2 (.inr ⟨p.2, hp⟩)
  refine ⟨_, S'.replace (M := N.filter fun p => decide (p.2 < n)) hx hX hN F' hV hVx (fun b o nf _ e => kb b o nf e) al (nd.sublist ((List.filter_sublist).map _)) (fun p hp => ⟨.inr ⟨p.2, mof hp⟩, by simpa using (List.mem_filter.mp hp).2⟩) ?_⟩
  refine OwnR.mono (fun b o nb e => kb b o (fun q => nb (.inl (.inr (.inl q)))) e) (fun b o _ q => ?_) (fun a l o q e => ⟨q, kb a o (hN _ (mof q)).2 e⟩) n 0 d v (fresh_cut nd nx r)
  refine q.imp (fun q => ?_) id
  rcases q with q | q | ⟨j, l, hm, hc⟩
  · exact .inl q
  · exact .inr (.inl q)
  · exact XR.unkeep' (.inr (.inr ⟨j, l, mof hm, hc⟩))
end

/-! the statements' texts -/
noncomputable def nameAt (c : Ctx) (i : Nat) (x : Str) : Bool := c.nm[i]? == some (some x)
noncomputable def twoOf (t : Expr) (xs : List Nat) : Bool := match t with
  | .Tuple .. => decide (2 ≤ xs.length)
  | _ => true
noncomputable def targetsAre (c : Ctx) (t : Expr) (xs : List Nat) : Bool := match targetNames t with
  | some ts => ts.length == xs.length && (ts.zip xs).all fun (t, i) => nameAt c i t
  | none => false

noncomputable def notLC : Expr → Bool
  | .ListComp .. => false
  | _ => true
mutual
noncomputable def chkS (c : Ctx) : Stmt → CS → Bool
  | st, .assign i e => (match st with | .Assign [.Name x _] v _ => nameAt c i x && chkE c v e | _ => false)
  | st, .setItem i k e => (match st with | .Assign [.Subscript (.Name x _) y _] v _ => nameAt c i x && x != ("__debug__" : Str) && chkE c y k && chkE c v e && notLC v | _ => false)
  | st, .append i e => (match st with | .Expr v _ => (match methOf v with | some (.Name x _, m, [a]) => m == ("append" : Str) && nameAt c i x && x != ("__debug__" : Str) && chkE c a e | _ => false) | _ => false)
  | st, .reverse i => (match st with | .Expr v _ => (match methOf v with | some (.Name x _, m, []) => m == ("reverse" : Str) && nameAt c i x && x != ("__debug__" : Str) | _ => false) | _ => false)
  | st, .expr e => (match st with | .Expr v _ => (match callOf v with | some _ => chkE c v e | none => false) | _ => false)
  | st, .ret e => (match st with | .Return (some v) _ => chkE c v e | _ => false)
  | st, .ite b t f => (match st with | .If v xs ys _ => chkE c v b && chkSs c xs t && chkSs c ys f | _ => false)
  | st, .for xs it b => (match st with | .For t v ys [] _ => targetsAre c t xs && twoOf t xs && chkE c v it && chkSs c ys b | _ => false)
  | st, .raise _ => (match st with | .Raise .. => true | _ => false)
noncomputable def chkSs (c : Ctx) : List Stmt → List CS → Bool
  | [], [] => true
  | x :: xs, e :: es => chkS c x e && chkSs c xs es
  | _, _ => false
end

section
variable (prog : Program) (w : World) (h₀ : Heap) (G : List D) (K : Oracle) (lv fuel : Nat)
noncomputable def ExecOK (c : Ctx) (st : Stmt) (cs : CS) : Prop :=
  ∀ {A : Around} {E : Value → Shared → Prop} {s : Shared} {env : Env} {base : Heap} {X₀ : Addr → Prop} {Δ : List Own} {own : Owned} {V : Str → Option Value} {ds : List D} {o : Out} {fall : Fall},
    Sit w h₀ lv c A env base X₀ Δ own V ds s → tyS cs Δ = some fall → execC G K fuel cs ds = some o → wpAny (model prog w) A (exec st env) (StPost w base X₀ env c.nm fall o s) E s
noncomputable def ExecsOK (c : Ctx) (st : List Stmt) (cs : List CS) : Prop :=
  ∀ {A : Around} {E : Value → Shared → Prop} {s : Shared} {env : Env} {base : Heap} {X₀ : Addr → Prop} {Δ : List Own} {own : Owned} {V : Str → Option Value} {ds : List D} {o : Out} {fall : Fall},
    Sit w h₀ lv c A env base X₀ Δ own V ds s → tySs cs Δ = some fall → execCs G K fuel cs ds = some o → wpAny (model prog w) A (execs st env) (StPost w base X₀ env c.nm fall o s) E s
end

section
variable {prog : Program} {w : World} {h₀ : Heap} {G : List D} {K : Oracle} {lv fuel : Nat} {c : Ctx} {mg mb : Str → Option Value}

theorem setL_eq {x : Nat} {d : D} {env env' : List D} (h : setL x d env = some env') : x < env.length ∧ env' = env.set x d := by
  unfold setL at h
  split at h
  · rename_i hx; cases h; exact ⟨hx, rfl⟩
  · cases h

theorem swaps_plain {v : Expr} {t : Option Expr} {l : Nat} {env : Env} (h : ∀ x gens sc p, v ≠ .ListComp x gens sc p) (h2 : ∀ x gens sc p, v ≠ .SetComp x gens sc p) (h3 : ∀ x y gens sc p, v ≠ .DictComp x y gens sc p) : swapsWith v t l env = pure false := by
  cases v with
  | ListComp => exact absurd rfl (h _ _ _ _)
  | SetComp => exact absurd rfl (h2 _ _ _ _)
  | DictComp => exact absurd rfl (h3 _ _ _ _ _)
  | _ => rfl
theorem bad_setcomp {x : Expr} {gens : List Comprehension} {sc : Scope} {p : Pos} {ce : CE} : chkE c (.SetComp x gens sc p) ce = false := by
  cases ce with
  | fn1 f a => cases f <;> rfl
  | fn2 f a b => cases f <;> rfl
  | _ => rfl
theorem bad_dictcomp {x y : Expr} {gens : List Comprehension} {sc : Scope} {p : Pos} {ce : CE} : chkE c (.DictComp x y gens sc p) ce = false := by
  cases ce with
  | fn1 f a => cases f <;> rfl
  | fn2 f a b => cases f <;> rfl
  | _ => rfl
theorem chk_noset {e : Expr} {ce : CE} (h : chkE c e ce = true) : (∀ x gens sc p, e ≠ .SetComp x gens sc p) ∧ (∀ x y gens sc p, e ≠ .DictComp x y gens sc p) := by
  refine ⟨fun x gens sc p q => ?_, fun x y gens sc p q => ?_⟩ <;> subst q
  · rw [bad_setcomp] at h; cases h
  · rw [bad_dictcomp] at h; cases h
noncomputable def isComp : CE → Bool
  | .comp _ _ _ => true
  | _ => false
theorem comp_fr {ce : CE} (h : isComp ce = true) : fr ce = 1 := by
  cases ce <;> first | rfl | cases h
theorem chk_comp {x : Expr} {gens : List Comprehension} {sc : Scope} {p : Pos} {ce : CE} (h : chkE c (.ListComp x gens sc p) ce = true) : isComp ce = true := by
  cases ce with
  | comp elt nt it => rfl
  | fn1 f a => unfold chkE at h; cases f <;> cases h
  | fn2 f a b => unfold chkE at h; cases f <;> cases h
  | _ => unfold chkE at h; cases h

/-- the store behind an expression -/
theorem store_eval {A : Around} {E : Value → Shared → Prop} {s s₁ : Shared} {env : Env} {base : Heap} {X₀ : Addr → Prop} {Δ : List Own} {own : Owned} {V : Str → Option Value} {ds : List D} {ce : CE} {d : D} {v : Value} {i : Nat} {x : Str}
    {Q : Unit → Shared → Prop} (T : Sit w h₀ lv c A env base X₀ Δ own V ds s) (hx : c.nm[i]? = some (some x)) (p : EvalPost w X₀ env own Δ ce d s v s₁)
    (hQ : ∀ s' own' V', Same s s' → St w base X₀ env c.nm ((down (reach ce) Δ).set i (some (fr ce))) own' V' (ds.set i d) s'.heap → Q () s') : wpAny (model prog w) A (storeName env x v) Q E s₁ := by
  obtain ⟨new, nd, hn, r⟩ := p.fresh
  have S := T.st.extend (Keeps.grow p.keeps) (Y := fun a => ∃ l, (a, l) ∈ new) fun a ⟨l, q⟩ => hn _ q
  refine S.fm.storeA (S.vars i x hx) fun h' tk F' kb al => ?_
  obtain ⟨own', S'⟩ := S.store hx (fun a q l z => not_alloc (hn _ z).1 (T.st.xal a q)) (fun p hp => ⟨none_of_grow T.st.keep (hn p hp).1, fun q => not_alloc (hn p hp).1 (T.st.fnew _ q).2⟩) nd r F' (V' := upd V x v) (fun y hy => if_neg hy) (if_pos rfl) kb al
  exact hQ _ own' _ ((Same.keeps p.keeps).trans ⟨h', tk, rfl⟩) S'

theorem ex_assign {st : Stmt} {i : Nat} {e : CE} (he : ∀ x, chkE c x e = true → EvalOK prog w h₀ G K lv c x e) (hco : ∀ x, chkE c x e = true → (∃ y gens sc p, x = .ListComp y gens sc p) → CompOK prog w h₀ G K lv c x e) (h : chkS c st (.assign i e) = true) : ExecOK prog w h₀ G K lv fuel c st (.assign i e) := by
  unfold chkS at h
  split at h
  · rename_i x px v pos
    simp only [Bool.and_eq_true, nameAt, beq_iff_eq] at h
    intro A E s env base X₀ Δ own V ds o fall T ht hx
    rw [tyS] at ht
    split at ht
    · rename_i hc
      cases ht
      simp only [Bool.and_eq_true, decide_eq_true_eq] at hc
      rw [execC] at hx
      obtain ⟨d, hd, hx⟩ := bindI hx
      obtain ⟨ds', hds, rfl⟩ := mapI hx
      obtain ⟨_, rfl⟩ := setL_eq hds
      have plain : swapsWith v (some (.Name x px)) pos.line env = pure false → wpAny (model prog w) A (exec (.Assign [.Name x px] v pos) env) (StPost w base X₀ env c.nm (some ((down (reach e) Δ).set i (some (fr e)))) (.next (ds.set i d)) s) E s := fun hsw =>
        wpAny_Assign_Name (wpAny_mono (he v h.2 T hc.1 hd) (fun vv s₁ p => store_eval T h.1 p fun s' own' V' sm S => ⟨sm, rfl, _, own', V', rfl, S⟩) fun _ _ q => q) hsw
      by_cases hl : ∃ y gens sc p, v = .ListComp y gens sc p
      · have ok := hco v h.2 hl
        obtain ⟨y, gens, sc, p, rfl, ok⟩ := ok
        by_cases hsw : (env.blockKind == .function && env.kindOf x == some .local && px.line == (Expr.ListComp y gens sc p).pos.line && !(sc.names.any fun (n, k) => n == x && (k == .local || k == .cell))) = true
        · have hsw' : swapsWith (.ListComp y gens sc p) (some (.Name x px)) pos.line env = pure true := congrArg pure hsw
          rw [exec_Assign_Name_used _ _ _ _ hsw']
          refine wpAny_bind (wpAny_standAt (wpAny_bind ?_))
          show wpAny _ A (do let _ ← comprehension (.ListComp y gens sc p) sc env (firstIterPos gens p) (newList []) (firstAsync gens) (firstIter gens env) (some (assign (.Name x px) env))) _ _ s
          refine wpAny_bind (wpAny_mono (ok (Q := fun _ s' => StPost w base X₀ env c.nm (some ((down (reach e) Δ).set i (some (fr e)))) (.next (ds.set i d)) s .next s') T hc.1 hd fun rs hrs => ?_) (fun _ s' q => wpAny_pure (wpAny_pure q)) fun _ _ q => q)
          subst hrs
          intro D' C m vs s' k nD nC hDC hns pl hz r
          have hfr : fr e = 1 := comp_fr (chk_comp h.2)
          have aC : Alloc s'.heap C := let ⟨o, _, _, q, _⟩ := hns; ⟨o, q⟩
          have aD : Alloc s'.heap D' := let ⟨_, q⟩ := pl; ⟨_, q⟩
          have S := (T.st.extend (Keeps.grow k) (Y := fun a => a = C ∨ a = D') fun a q => by rcases q with rfl | rfl; exact ⟨nC, aC⟩; exact ⟨nD, aD⟩).xiff (X₁ := fun a => (X₀ a ∨ a = C) ∨ ∃ l, (a, l) ∈ [(D', 0)]) (fun a => by simp [or_assoc])
          have nfC : ¬ FrameAddr env C := fun q => not_alloc nC (T.st.fnew _ q).2
          have nfD : ¬ FrameAddr env D' := fun q => not_alloc nD (T.st.fnew _ q).2
          show wpAny _ A (assign (.Name x px) env (.ref D')) _ _ s'
          refine wpAny_assign_Name (S.fm.storeA (S.vars i x h.1) fun h' tk F' kb al => ?_)
          obtain ⟨own', S'⟩ := S.store (R := reach e) (n := 1) (d := .list rs) h.1 (fun a q l z => by
            rw [List.mem_singleton] at z; cases z
            rcases q with q | q
            · exact not_alloc nD (T.st.xal _ q)
            · exact hDC q) (fun p hp => by rw [List.mem_singleton] at hp; subst hp; exact ⟨none_of_grow T.st.keep nD, nfD⟩) (by simp)
            ⟨D', vs, rfl, List.mem_singleton.mpr rfl, hz, pl, repL_all2.mp (r.less fun b q => by
              rcases q with (((q | q) | q | q) | ⟨l, q⟩)
              · exact .inl (.inl q)
              · exact .inr (.inr q)
              · exact .inl (.inr (.inl q))
              · exact .inl (.inr (.inr q))
              · rw [List.mem_singleton] at q; cases q; exact .inr (.inl rfl))⟩ F' (V' := upd V x (.ref D')) (fun y hy => if_neg hy) (if_pos rfl) kb al
          have hC' : ∃ m', h'.Ns C m' := ⟨m, hns.at' fun o e => kb C o nfC e⟩
          obtain ⟨m', hm'⟩ := hC'
          refine ⟨m', hm', fun h'' hs => ⟨(Same.keeps k).trans ⟨h'', tk, rfl⟩, rfl, _, own', upd V x (.ref D'), rfl, ?_⟩⟩
          rw [hfr]
          exact S'.touch (I := C) (.inr rfl) nfC (none_of_grow T.st.keep nC) (fun b o nb e => hs.extBut b o nb e) (fun a q => .inl q) fun a q => by
            obtain ⟨o, e⟩ := al a (S.xal a (.inl (.inl q)))
            exact ⟨o, hs.extBut a o (fun z => not_alloc nC (z ▸ T.st.xal a q)) e⟩
        · exact plain (congrArg pure (Bool.eq_false_iff.mpr hsw))
      · exact plain (swaps_plain (fun y gens sc p q => hl ⟨_, _, _, _, q⟩) (chk_noset h.2).1 (chk_noset h.2).2)
    · cases ht
  · cases h

theorem ex_expr {st : Stmt} {e : CE} (he : ∀ x, chkE c x e = true → EvalOK prog w h₀ G K lv c x e) (h : chkS c st (.expr e) = true) : ExecOK prog w h₀ G K lv fuel c st (.expr e) := by
  unfold chkS at h
  split at h
  · rename_i v pos
    split at h
    · rename_i q hq
      obtain ⟨x, as⟩ := q
      obtain ⟨p, q, rfl⟩ := callOf_eq hq
      intro A E s env base X₀ Δ own V ds o fall T ht hx
      rw [tyS] at ht
      split at ht
      · rename_i hc
        cases ht
        rw [execC] at hx
        obtain ⟨d, hd, rfl⟩ := mapI hx
        refine wpAny_Expr_any (wpAny_mono (he _ h T hc hd) (fun v s₁ p => ?_) fun _ _ q => q) (by unfold interactive; rw [T.st.fm.kind]; rfl) rfl
        exact ⟨Same.keeps p.keeps, rfl, _, _, _, rfl, T.st.grow (Keeps.grow p.keeps)⟩
      · cases ht
    · cases h
  · cases h

theorem ex_ret {st : Stmt} {e : CE} (he : ∀ x, chkE c x e = true → EvalOK prog w h₀ G K lv c x e) (h : chkS c st (.ret e) = true) : ExecOK prog w h₀ G K lv fuel c st (.ret e) := by
  unfold chkS at h
  split at h
  · rename_i v pos
    intro A E s env base X₀ Δ own V ds o fall T ht hx
    rw [tyS] at ht
    split at ht
    · rename_i hc
      cases ht
      rw [execC] at hx
      obtain ⟨d, hd, rfl⟩ := mapI hx
      refine wpAny_Return_some (wpAny_mono (he _ h T hc hd) (fun v s₁ p => ?_) fun _ _ q => q)
      have S := T.st.grow (Keeps.grow p.keeps)
      exact ⟨Same.keeps p.keeps, v, rfl, S.keep, S.xal, (p.rep T.st).less fun b q => .inl q⟩
    · cases ht
  · cases h

theorem ex_ite {st : Stmt} {b : CE} {t f : List CS} (hb : ∀ x, chkE c x b = true → TrueOK prog w h₀ G K lv c x b) (ht : ∀ x, chkSs c x t = true → ExecsOK prog w h₀ G K lv fuel c x t) (hf : ∀ x, chkSs c x f = true → ExecsOK prog w h₀ G K lv fuel c x f) (h : chkS c st (.ite b t f) = true) : ExecOK prog w h₀ G K lv fuel c st (.ite b t f) := by
  unfold chkS at h
  split at h
  · rename_i v xs ys pos
    simp only [Bool.and_eq_true] at h
    intro A E s env base X₀ Δ own V ds o fall T hty hx
    rw [tyS] at hty
    split at hty
    · rename_i hc
      obtain ⟨fa, hfa, hty⟩ := bindI hty
      obtain ⟨fb, hfb, hty⟩ := bindI hty
      split at hty
      · rename_i hl
        cases hty
        simp only [Bool.and_eq_true] at hl
        have hlen : ∀ (f : Fall), lenF Δ.length f = true → ∀ Δ', f = some Δ' → Δ'.length = Δ.length := fun f hf Δ' q => by subst q; simpa [lenF] using hf
        obtain ⟨l1, l2⟩ := joinF_le (hlen _ hl.1) (hlen _ hl.2)
        rw [execC] at hx
        obtain ⟨r, hr, hx⟩ := bindI hx
        refine wpAny_If (wpAny_mono (hb v h.1.1 T hc hr) (fun b' s₁ p => ?_) fun _ _ q => q)
        obtain ⟨rfl, k⟩ := p
        have T' := T.keeps k
        cases b' with
        | true =>
          rw [if_pos rfl] at hx
          rw [if_pos rfl]
          exact wpAny_mono (ht xs h.1.2 T' hfa hx) (fun f s₂ p => (p.weak l1).older (Same.keeps k)) fun _ _ q => q
        | false =>
          rw [if_neg (by simp)] at hx
          rw [if_neg (by simp)]
          exact wpAny_mono (hf ys h.2 T' hfb hx) (fun f s₂ p => (p.weak l2).older (Same.keeps k)) fun _ _ q => q
      · cases hty
    · cases hty
  · cases h

theorem exs_nil {xs : List Stmt} (h : chkSs c xs [] = true) : ExecsOK prog w h₀ G K lv fuel c xs [] := by
  cases xs with
  | nil =>
    intro A E s env base X₀ Δ own V ds o fall T hty hx
    rw [tySs] at hty; cases hty
    rw [execCs] at hx; cases hx
    exact wpAny_execs_nil ⟨.refl _, rfl, _, _, _, rfl, T.st⟩
  | cons x xs => rw [chkSs] at h; cases h; all_goals (intros; contradiction)
theorem exs_cons {xs : List Stmt} {t : CS} {ts : List CS} (h1 : ∀ x, chkS c x t = true → ExecOK prog w h₀ G K lv fuel c x t) (h2 : ∀ x, chkSs c x ts = true → ExecsOK prog w h₀ G K lv fuel c x ts) (h : chkSs c xs (t :: ts) = true) : ExecsOK prog w h₀ G K lv fuel c xs (t :: ts) := by
  cases xs with
  | nil => rw [chkSs] at h; cases h; all_goals (intros; contradiction)
  | cons x xs =>
    rw [chkSs] at h
    simp only [Bool.and_eq_true] at h
    intro A E s env base X₀ Δ own V ds o fall T hty hx
    rw [tySs] at hty
    obtain ⟨f, hf, hty⟩ := bindI hty
    rw [execCs] at hx
    obtain ⟨o₁, ho, hx⟩ := bindI hx
    refine wpAny_execs_cons (wpAny_mono (h1 x h.1 T hf ho) (fun fl s₁ p => ?_) fun _ _ q => q)
    cases o₁ with
    | next ds' =>
      obtain ⟨sm, rfl, Δ', own', V', rfl, S⟩ := p
      exact wpAny_mono (h2 xs h.2 ⟨T.a, T.e, S, T.gr, T.xn⟩ hty hx) (fun f s₂ p => p.older sm) fun _ _ q => q
    | ret d =>
      cases hx
      obtain ⟨sm, v, rfl, g, al, r⟩ := p
      exact ⟨sm, v, rfl, g, al, r⟩
end
end Mine

namespace Mine
open PySem

section
variable {prog : Program} {w : World} {h₀ : Heap} {G : List D} {K : Oracle} {lv fuel : Nat} {c : Ctx} {mg mb : Str → Option Value}

theorem Sit.with {A : Around} {env : Env} {base base' : Heap} {X₀ : Addr → Prop} {Δ Δ' : List Own} {own own' : Owned} {V V' : Str → Option Value} {ds ds' : List D} {s s' : Shared} (T : Sit w h₀ lv c A env base X₀ Δ own V ds s) (g : Grow base base')
    (S : St w base' X₀ env c.nm Δ' own' V' ds' s'.heap) : Sit w h₀ lv c A env base' X₀ Δ' own' V' ds' s' := ⟨T.a, T.e, S, T.gr.trans g, T.xn⟩

theorem down_nil {Δ : List Own} : down [] Δ = Δ := by
  unfold down
  apply List.ext_getElem?
  intro i
  rw [List.getElem?_mapIdx]
  cases Δ[i]? with
  | none => rfl
  | some o => cases o <;> rfl

/-- a value without anything fresh is stored -/
theorem St.store0 {base : Heap} {X₀ : Addr → Prop} {env : Env} {nm : List (Option Str)} {Δ : List Own} {own : Owned} {V V' : Str → Option Value} {ds : List D} {h h' : Heap} {i : Nat} {x : Str} {v : Value} {d : D}
    (S : St w base X₀ env nm Δ own V ds h) (hx : nm[i]? = some (some x)) (r : Rep w h (XR X₀ env own []) d v)
    (F' : Fm env h' V') (hV : ∀ y, y ≠ x → V' y = V y) (hVx : V' x = some v) (kb : KeepBut (FrameAddr env) h h') (al : ∀ a, Alloc h a → Alloc h' a) :
    ∃ own', (∀ p ∈ own', p ∈ own) ∧ St w base X₀ env nm (Δ.set i (some 0)) own' V' (ds.set i d) h' := by
  have S' := (S.xiff (X₁ := fun a => X₀ a ∨ ∃ l, (a, l) ∈ ([] : List (Addr × Nat))) (fun a => by simp)).replace (i := i) (n' := 0) (M := []) (d' := d) hx (fun a _ l q => nomatch q) (fun p q => nomatch q) F' hV hVx (fun b o nf _ e => kb b o nf e) al (by simp) (fun p q => nomatch q)
    (Rep.mono (fun b o nb e => kb b o (fun q => nb (.inr (.inl q))) e) (fun b o _ q => by
      rcases q with q | ⟨l, q⟩
      · rcases q with q | q | ⟨j, l, hm, hc⟩
        · exact .inl q
        · exact .inr (.inl q)
        · exact .inr (.inr ⟨j, l, mof hm, hc⟩)
      · cases q) r)
  refine ⟨_, fun p hp => ?_, S'⟩
  simp only [List.map_nil, List.append_nil] at hp
  exact mof hp

/-- the names of a tuple, one behind the other -/
theorem bind_ok {A : Around} {E : Value → Shared → Prop} {env : Env} {base : Heap} {X₀ : Addr → Prop} {Δ : List Own} {own : Owned} {V : Str → Option Value} {ds ds' : List D} {s : Shared} {t : Expr} {xs : List Nat} {d : D} {v : Value} (h : targetsAre c t xs = true)
    (T : Sit w h₀ lv c A env base X₀ Δ own V ds s) (r : Rep w s.heap (XR X₀ env own []) d v) (hb : bindTo xs d ds = some ds') (hone : ∀ es k p, t = .Tuple es k p → 2 ≤ xs.length) :
    wpAny (model prog w) A (assign t env v) (fun _ s' => Same s s' ∧ ∃ own' V', St w base X₀ env c.nm (xs.foldl (fun Δ x => Δ.set x (some 0)) Δ) own' V' ds' s'.heap) E s := by
  unfold targetsAre at h
  split at h
  · rename_i ts hts
    simp only [Bool.and_eq_true, beq_iff_eq] at h
    cases t with
    | Name x p =>
      cases hts
      match xs, h with
      | [i], h =>
        simp only [List.zip_cons_cons, List.zip_nil_left, List.all_cons, List.all_nil, Bool.and_true, nameAt, beq_iff_eq] at h
        obtain ⟨_, rfl⟩ := setL_eq (show setL i d ds = some ds' from hb)
        refine wpAny_assign_Name (T.st.fm.storeA (T.st.vars i x h.2) fun h' tk F' kb al => ?_)
        obtain ⟨own', hsub, S'⟩ := T.st.store0 (V' := upd V x v) (d := d) h.2 r F' (fun y hy => if_neg hy) (if_pos rfl) kb al
        exact ⟨⟨h', tk, rfl⟩, own', _, S'⟩
      | [], h => exact absurd h.1 (by simp)
      | _ :: _ :: _, h => exact absurd h.1 (by simp)
    | Tuple es k p =>
      have h2 := hone es k p rfl
      match xs, h2, hb with
      | x :: y :: xs, _, hb => unfold bindTo at hb; cases hb
    | _ => cases hts
  · cases h
end
end Mine

namespace Mine
open PySem

theorem root_reach : ∀ {e : CE} {x l : Nat}, root e = some (x, l) → (x, l) ∈ reach e := by
  intro e x l h
  cases e with
  | var i => rw [root] at h; cases h; rw [reach]; exact List.mem_singleton.mpr rfl
  | index a i =>
    rw [root] at h
    obtain ⟨p, hp, e⟩ := mapI h
    cases e
    rw [reach, hp]
    exact List.mem_singleton.mpr rfl
  | _ => unfold root at h; cases h
theorem elems_cov {e : CE} {i l : Nat} (h : Cov (elems e) i l) : Cov (reach e) i l := by
  unfold elems at h
  cases hr : root e with
  | none => rw [hr] at h; exact h
  | some p =>
    rw [hr] at h
    obtain ⟨l', hl, hm⟩ := h
    rw [List.mem_singleton] at hm
    cases hm
    exact ⟨p.2, by omega, root_reach hr⟩

section
variable {prog : Program} {w : World} {h₀ : Heap} {G : List D} {K : Oracle} {lv fuel : Nat} {c : Ctx} {mg mb : Str → Option Value}

theorem letGo_calm {A : Around} {E : Value → Shared → Prop} {s : Shared} {t : Expr} {I : Addr} {v : Value} {Q : Unit → Shared → Prop} (hc : Calm s.heap I) (h : Q () s) : wpAny (model prog w) A (letOwnedTupleGo t (.ref I) v) Q E s := by
  obtain ⟨o, T, ho, hT, hn⟩ := hc
  have go : ∀ (v : Value), wpAny (model prog w) A (do
      let (.ref r, .ref a) := (Value.ref I, v) | return
      let o ← load r
      match o.cls, o.data with
      | .type n, .fields vs =>
        if ["enumerate", "zip", "dict_itemiterator", "dict_reverseitemiterator", "odict_iterator", "itertools.zip_longest", "itertools.pairwise"].contains n && vs[0]? == some (rawInt a) then
          rule "for.unpacks-the-owned-tuple"
          updateField r 0 .none
      | _, _ => pure ()) Q E s := by
    intro v
    cases v with
    | ref a =>
      refine wpAny_bind (wpAny_load ho ?_)
      rw [hT]
      cases hd : o.data with
      | fields vs =>
        dsimp only
        rw [if_neg (by
          intro q
          rw [Bool.and_eq_true] at q
          exact absurd q.1 (by rw [show (["enumerate", "zip", "dict_itemiterator", "dict_reverseitemiterator", "odict_iterator", "itertools.zip_longest", "itertools.pairwise"] : List String) = owners from rfl, hn]; simp))]
        exact wpAny_pure h
      | _ => exact wpAny_pure h
    | _ => exact wpAny_pure h
  unfold letOwnedTupleGo
  cases t <;> first | exact go v | exact wpAny_pure h

set_option maxHeartbeats 1600000 in
inductive ForInv (w : World) (base : Heap) (X₀ : Addr → Prop) (env : Env) (nm : List (Option Str)) (Δs : List Own) (I : Addr) (fp : List Addr) (P : Nat → Value → Prop) (St' : Nat → Heap → Prop) (items : List D) (f : D → List D → Option Out) (o : Out) (s : Shared) (n : Nat) (s' : Shared) : Prop
  | mk (i : Nat) (own' : Owned) (V' : Str → Option Value) (ds' : List D) (hin : i + n = items.length) (sm : Same s s') (S : St w base (fun a => X₀ a ∨ a = I) env nm Δs own' V' ds' s'.heap) (hst : St' i s'.heap)
    (hfp : ∀ b ∈ fp, b = I ∨ (¬ FrameAddr env b ∧ (∀ j l, (b, j, l) ∉ own') ∧ Alloc s'.heap b)) (hP : ∀ i v, P i v → ∃ d, items[i]? = some d ∧ Rep w s'.heap (XR (fun a => X₀ a ∨ a = I) env own' []) d v)
    (hf : forC f (items.drop i) ds' = some o) : ForInv w base X₀ env nm Δs I fp P St' items f o s n s'
theorem ex_for {st : Stmt} {xs : List Nat} {it : CE} {b : List CS} (hi : ∀ x, chkE c x it = true → ItOK prog w h₀ G K lv c x it) (ht : ∀ x, chkSs c x b = true → ExecsOK prog w h₀ G K lv fuel c x b) (h : chkS c st (.for xs it b) = true) : ExecOK prog w h₀ G K lv fuel c st (.for xs it b) := by
  unfold chkS at h
  split at h
  · rename_i t v ys pos
    simp only [Bool.and_eq_true] at h
    obtain ⟨⟨⟨h1, h2⟩, h3⟩, h4⟩ := h
    intro A E s env base X₀ Δ own V ds o fall T hty hx
    rw [tyS] at hty
    split at hty
    · rename_i hc
      simp only [Bool.and_eq_true] at hc
      obtain ⟨Δs, hf, rfl⟩ := mapI hty
      obtain ⟨hle, r, hr, hlf⟩ := fixD_spec hf
      rw [execC] at hx
      obtain ⟨items, hit, hx⟩ := bindI hx
      refine wpAny_For (wpAny_mono (hi v h3 T hc.1 hit) (fun x s₁ h₁ => wpAny_mono h₁ (fun itv s₂ p => ?_) fun _ _ q => q) fun _ _ q => q) (folded_of h3)
      obtain ⟨hz, I, fp, P, St', rfl, W, hst, k₂, hI, aI, hfp, hAl, hP⟩ := p
      have W := W A T.a.handled
      have g₂ := Keeps.grow k₂
      have nfI : ¬ FrameAddr env I := fun q => not_alloc hI (T.st.fnew _ q).2
      have nbI : base.get? I = none := none_of_grow T.st.keep hI
      have S₁ := ((T.st.extend g₂ (Y := fun a => a = I) fun a q => by subst q; exact ⟨hI, aI⟩).down (reach it)).weak hle
      refine codeAny_forLoop_any (ForInv w base X₀ env c.nm Δs I fp P St' items (fun d env => (bindTo xs d env).bind (execCs G K fuel b)) o s) (fun n s' hI' => ?_) items.length ⟨0, _, _, _, by simp, Same.keeps k₂, S₁, hst, fun b hb => ?_, fun i v hv => ?_, by simpa using hx⟩
      · obtain ⟨i, own', V', ds', hin, sm, S, hsti, hfpi, hPi, hfor⟩ := hI'
        by_cases hlt : i < items.length
        · refine W.item i _ _ _ hlt hsti fun v h' tk hv hst' hk => ?_
          have hkI : ∀ b o, b ≠ I → s'.heap.get? b = some o → h'.get? b = some o := fun b o nb e => hk b o (fun q => nb (List.mem_singleton.mp q)) e
          have S' := S.touch (X₁ := fun a => X₀ a ∨ a = I) (h' := h') (I := I) (.inr rfl) nfI nbI hkI (fun a q => q) fun a q => by
            rcases q with q | q
            · obtain ⟨o, e⟩ := S.xal a (.inl q)
              exact ⟨o, hkI a o (fun z => not_alloc hI (z ▸ T.st.xal a q)) e⟩
            · subst q; exact (hAl _ _ hst').alloc
          refine letGo_calm (hAl _ _ hst') ?_
          obtain ⟨base', gb, gh, Sf, hfast⟩ := S'.fast
          obtain ⟨d, hd, rd⟩ := hPi i v hv
          have rd' : Rep w h' (XR (fun a => X₀ a ∨ a = I) env own' []) d v := rd.mono (fun b o nb e => hkI b o (fun q => nb (.inl (.inr q))) e) fun _ _ _ q => q
          have hdrop : items.drop i = d :: items.drop (i + 1) := by
            rw [List.drop_eq_getElem_cons hlt]
            rw [List.getElem?_eq_getElem hlt] at hd
            cases hd; rfl
          rw [hdrop, forC] at hfor
          obtain ⟨o₁, ho₁, hfor⟩ := bindI hfor
          obtain ⟨ds₂, hb₂, ho₁⟩ := bindI ho₁
          have T' : Sit w h₀ lv c A env base' (fun a => X₀ a ∨ a = I) Δs own' V' ds' { s' with heap := h', toks := tk } := ⟨T.a, T.e, Sf, T.gr.trans gb, fun a q => by
            rcases q with q | q
            · exact T.xn a q
            · subst q; exact none_of_grow T.gr nbI⟩
          refine wpAny_mono (bind_ok h1 T' rd' hb₂ fun es k p q => ?_) (fun _ s₃ p₃ => ?_) fun _ _ q => q
          · subst q; simpa [twoOf] using h2
          obtain ⟨sm₃, own₃, V₃, S₃⟩ := p₃
          refine wpAny_mono (ht ys h4 (T'.with (.refl _) S₃) hr ho₁) (fun f s₄ p => ?_) fun _ _ q => q
          have p := p.weak hlf
          have sm₄ : Same s s₄ := ((sm.trans (Same.trans ⟨h', tk, rfl⟩ sm₃))).trans p.1
          cases o₁ with
          | next ds'' =>
            obtain ⟨_, rfl, Δ', own₄, V₄, e, S₄⟩ := p
            cases e
            have kept : ∀ b o, ¬ FrameAddr env b → (∀ j l, (b, j, l) ∉ own') → h'.get? b = some o → s₄.heap.get? b = some o := fun b o nf no e => S₄.keep b o (hfast b o nf no e)
            have nI : ∀ j l, (I, j, l) ∉ own' := fun j l q => (S.onew _ q).2.2.2 (.inr rfl)
            refine ⟨n - 1, by omega, i + 1, own₄, V₄, ds'', by omega, sm₄, S₄.rebase gb, W.frame _ _ _ hst' fun b hb o e => ?_, fun b hb => ?_, fun i v hv => ?_, hfor⟩
            · rcases hfpi b hb with q | ⟨q1, q2, _⟩
              · subst q; exact kept b o nfI nI e
              · exact kept b o q1 q2 e
            · rcases hfpi b hb with q | ⟨q1, q2, o, e⟩
              · exact .inl q
              · by_cases hbI : b = I
                · exact .inl hbI
                · have e' := hfast b o q1 q2 (hkI b o hbI e)
                  exact .inr ⟨q1, (fun j l q => by have z := (S₄.onew _ q).1; rw [e'] at z; cases z), _, S₄.keep b o e'⟩
            · obtain ⟨d', hd', rd'⟩ := hPi i v hv
              have rd'' : Rep w h' (XR (fun a => X₀ a ∨ a = I) env own' []) d' v := rd'.mono (fun b o nb e => hkI b o (fun q => nb (.inl (.inr q))) e) fun _ _ _ q => q
              refine ⟨d', hd', rd''.mono (fun b o nb e => kept b o (fun q => nb (.inr (.inl q))) (fun j l q => nb (.inr (.inr ⟨j, l, q, fun ⟨_, _, z⟩ => nomatch z⟩))) e) fun b o ho q => ?_⟩
              rcases q with q | q | ⟨j, l, hm, _⟩
              · exact .inl q
              · exact .inr (.inl q)
              · apply Classical.byContradiction
                intro hn
                have e' := hfast b o (fun q => hn (.inr (.inl q))) (fun j l q => hn (.inr (.inr ⟨j, l, q, fun ⟨_, _, z⟩ => nomatch z⟩))) ho
                have z := (S₄.onew _ hm).1
                rw [e'] at z
                cases z
          | ret d' =>
            cases hfor
            obtain ⟨_, vv, rfl, g, al, r⟩ := p
            exact ⟨sm₄, vv, rfl, gb.trans g, fun a q => al a (.inl q), r.less fun a q => .inl q⟩
        · have hi' : i = items.length := by omega
          subst hi'
          rw [List.drop_length, forC] at hfor
          cases hfor
          refine W.done _ _ _ hsti fun h' tk hk => wpAny_execs_nil ⟨sm.trans ⟨h', tk, rfl⟩, rfl, Δs, own', V', rfl, ?_⟩
          have hkI : ∀ b o, b ≠ I → s'.heap.get? b = some o → h'.get? b = some o := fun b o nb e => hk b o (fun q => nb (List.mem_singleton.mp q)) e
          exact S.touch (h' := h') (I := I) (.inr rfl) nfI nbI hkI (fun a q => .inl q) fun a q => by
            obtain ⟨o, e⟩ := S.xal a (.inl q)
            exact ⟨o, hkI a o (fun z => not_alloc hI (z ▸ T.st.xal a q)) e⟩
      · rcases hfp b hb with q | ⟨q, al⟩
        · exact .inl q
        · exact .inr ⟨fun z => q (.inr (.inl z)), fun j l z => q (XR.unkeep' (.inr (.inr ⟨j, l, mof z, fun ⟨_, _, z⟩ => nomatch z⟩))), al⟩
      · obtain ⟨d, hd, rd⟩ := hP i v hv
        refine ⟨d, hd, rd.less fun b q => ?_⟩
        rcases q with (q | q) | q | ⟨j, l, hm, _⟩
        · exact .inl (.inl q)
        · exact .inr q
        · exact .inl (.inr (.inl q))
        · have k := keepB_iff.mp (List.mem_filter.mp (mof hm)).2
          exact .inl (.inr (.inr ⟨j, l, mof (mof hm), fun z => k (elems_cov z)⟩))
    · cases hty
  · cases h
end
end Mine

namespace Mine
open PySem

theorem All2.append {α β : Type} {P : α → β → Prop} : ∀ {as as' : List α} {bs bs' : List β}, All2 P as bs → All2 P as' bs' → All2 P (as ++ as') (bs ++ bs')
  | [], _, _, _, h, h' => by rw [show _ = [] from h]; exact h'
  | _ :: _, _, _, _, ⟨v, vs', e, p, r⟩, h' => by subst e; exact ⟨v, _, rfl, p, r.append h'⟩
theorem All2.one {α β : Type} {P : α → β → Prop} {a : α} {b : β} (h : P a b) : All2 P [a] [b] := ⟨b, [], rfl, h, rfl⟩
theorem All2.set {α β : Type} {P : α → β → Prop} : ∀ {k : Nat} {as : List α} {bs : List β} {a : α} {b : β}, All2 P as bs → P a b → All2 P (as.set k a) (bs.set k b)
  | _, [], _, _, _, h, _ => by rw [show _ = [] from h]; simp [All2]
  | 0, _ :: _, _, _, _, ⟨v, vs', e, p, r⟩, q => by subst e; exact ⟨_, _, rfl, q, r⟩
  | k + 1, _ :: _, _, _, _, ⟨v, vs', e, p, r⟩, q => by subst e; exact ⟨_, _, rfl, p, r.set q⟩
theorem All2.reverse {α β : Type} {P : α → β → Prop} : ∀ {as : List α} {bs : List β}, All2 P as bs → All2 P as.reverse bs.reverse
  | [], _, h => by rw [show _ = [] from h]; simp [All2]
  | _ :: _, _, ⟨v, vs', e, p, r⟩ => by subst e; rw [List.reverse_cons, List.reverse_cons]; exact r.reverse.append (.one p)

section
variable {w : World} {base : Heap} {X₁ : Addr → Prop} {env : Env} {nm : List (Option Str)} {Δ : List Own} {own : Owned} {V : Str → Option Value} {ds : List D} {h h' : Heap}

/-- the ways an item of a rewritten container comes -/
noncomputable def OldItem (w : World) (h : Heap) (X₁ : Addr → Prop) (env : Env) (own : Owned) (N : List (Addr × Nat)) (R : List (Nat × Nat)) (i n : Nat) (d : D) (v : Value) : Prop :=
  OwnR w h (XR (fun a => X₁ a ∨ ∃ l, (a, l) ∈ N) env (own.filter (keepB R)) []) (fun a l => (a, i, l) ∈ own.filter (keepB R)) n 1 d v
noncomputable def NewItem (w : World) (h : Heap) (X₁ : Addr → Prop) (env : Env) (own : Owned) (N : List (Addr × Nat)) (R : List (Nat × Nat)) (m : Nat) (d : D) (v : Value) : Prop :=
  OwnR w h (fun b => XR X₁ env own R b ∨ ∃ l, (b, l) ∈ N) (fun b l => (b, l) ∈ N) m 0 d v

noncomputable def slotM (own : Owned) (N : List (Addr × Nat)) (i n : Nat) : List (Addr × Nat) :=
  ((own.filter fun p => p.2.1 == i && decide (p.2.2 < n + 1)).map fun p => (p.1, p.2.2)) ++ ((N.filter fun p => decide (p.2 < n)).map fun p => (p.1, p.2 + 1))
theorem slotM_mem {own : Owned} {N : List (Addr × Nat)} {i n : Nat} {b : Addr} {l : Nat} : (b, l) ∈ slotM own N i n ↔ ((b, i, l) ∈ own ∧ l < n + 1) ∨ ∃ l', l = l' + 1 ∧ (b, l') ∈ N ∧ l' < n := by
  unfold slotM
  rw [List.mem_append, List.mem_map, List.mem_map]
  constructor
  · rintro (⟨⟨a, j, k⟩, hp, e⟩ | ⟨⟨a, k⟩, hp, e⟩)
    · cases e
      obtain ⟨h1, h2⟩ := List.mem_filter.mp hp
      simp only [Bool.and_eq_true, beq_iff_eq, decide_eq_true_eq] at h2
      obtain ⟨rfl, h2⟩ := h2
      exact .inl ⟨h1, h2⟩
    · cases e
      obtain ⟨h1, h2⟩ := List.mem_filter.mp hp
      exact .inr ⟨k, rfl, h1, by simpa using h2⟩
  · rintro (⟨h1, h2⟩ | ⟨k, rfl, h1, h2⟩)
    · exact .inl ⟨(b, i, l), List.mem_filter.mpr ⟨h1, by simpa using h2⟩, rfl⟩
    · exact .inr ⟨(b, k), List.mem_filter.mpr ⟨h1, by simpa using h2⟩, rfl⟩

/-- an owned list is rewritten in place -/
theorem St.relist {N : List (Addr × Nat)} {R : List (Nat × Nat)} {i n m : Nat} {x : Str} {a : Addr} {ws : Array Value} {dd : List D} (S : St w base (fun a => X₁ a ∨ ∃ l, (a, l) ∈ N) env nm Δ own V ds h) (hx : nm[i]? = some (some x)) (hX : ∀ a, X₁ a → ∀ l, (a, l) ∉ N)
    (hN : ∀ p ∈ N, base.get? p.1 = none ∧ ¬ FrameAddr env p.1) (nd : (N.map (·.1)).Nodup) (hv : V x = some (.ref a)) (ha : (a, i, 0) ∈ own.filter (keepB R))
    (he : ∀ b o, b ≠ a → h.get? b = some o → h'.get? b = some o) (pl : h'.PlainList a ws) (hz : dd.length ≤ LIM)
    (r : All2 (fun d v => OldItem w h X₁ env own N R i n d v ∨ NewItem w h X₁ env own N R m d v) dd ws.toList) :
    ∃ own', St w base X₁ env nm ((Mine.down R Δ).set i (some (min (n + 1) (1 + m)))) own' V (ds.set i (.list dd)) h' := by
  have S' := S.down R
  obtain ⟨k, hk⟩ : ∃ k, min n m = k := ⟨_, rfl⟩
  have hk' : min (n + 1) (1 + m) = k + 1 := by omega
  rw [hk']
  have hna : ¬ FrameAddr env a := (S'.onew _ ha).2.2.1
  have nodM : ((slotM (own.filter (keepB R)) N i k).map (·.1)).Nodup := by
    unfold slotM
    rw [List.map_append, List.map_map, List.map_map, List.nodup_append]
    refine ⟨S'.nodup.sublist ((List.filter_sublist).map _), nd.sublist ((List.filter_sublist).map _), ?_⟩
    intro b hb b' hb' e
    subst e
    obtain ⟨p, hp, e1⟩ := List.mem_map.mp hb
    obtain ⟨q, hq, e2⟩ := List.mem_map.mp hb'
    have e1 : p.1 = b := e1
    have e2 : q.1 = b := e2
    exact (S'.onew p (mof hp)).2.2.2 (.inr ⟨q.2, by rw [e1, ← e2]; exact mof hq⟩)
  have aM : (a, 0) ∈ slotM (own.filter (keepB R)) N i k := slotM_mem.mpr (.inl ⟨ha, Nat.succ_pos _⟩)
  have hb : ∀ b o, ¬ FrameAddr env b → (∀ l, (b, i, l) ∉ own.filter (keepB R)) → h.get? b = some o → h'.get? b = some o := fun b o _ no e => he b o (fun q => no 0 (q ▸ ha)) e
  have item : ∀ d v, (OldItem w h X₁ env own N R i n d v ∨ NewItem w h X₁ env own N R m d v) →
      OwnR w h' (fun b => XR X₁ env ((own.filter (keepB R)).filter (notSlot i)) [] b ∨ ∃ l, (b, l) ∈ slotM (own.filter (keepB R)) N i k) (fun b l => (b, l) ∈ slotM (own.filter (keepB R)) N i k) k 1 d v := by
    intro d v hdv
    have mid : OwnR w h (fun b => XR X₁ env ((own.filter (keepB R)).filter (notSlot i)) [] b ∨ ∃ l, (b, l) ∈ slotM (own.filter (keepB R)) N i k) (fun b l => (b, l) ∈ slotM (own.filter (keepB R)) N i k ∧ 1 ≤ l) k 1 d v := by
      rcases hdv with r | r
      · refine OwnR.drop (fun b q => ?_) n 1 k d v (by omega) (fun b j q h1 h2 => ⟨slotM_mem.mpr (.inl ⟨q, by omega⟩), h1⟩) (fun b j q hj y => ?_) r
        · rcases q with q | ⟨l, q⟩
          · rcases q with q | q | ⟨j, l, hm, hc⟩
            · exact .inl (.inl q)
            · exact .inr (.inl q)
            · exact .inr (.inr ⟨j, l, mof hm, hc⟩)
          · rcases slotM_mem.mp q with ⟨q, _⟩ | ⟨l', _, q, _⟩
            · exact .inr (.inr ⟨i, l, q, fun ⟨_, _, z⟩ => nomatch z⟩)
            · exact .inl (.inr ⟨l', q⟩)
        · obtain ⟨o1, o2, o3, o4⟩ := S'.onew _ q
          rcases y with y | ⟨l, y⟩
          · rcases y with y | y | ⟨j', l', hm, _⟩
            · exact o4 (.inl y)
            · exact o3 y
            · have : (b, i, j) = (b, j', l') := nodup_inj S'.nodup q (mof hm) rfl
              cases this
              have := (List.mem_filter.mp hm).2
              simp [notSlot] at this
          · rcases slotM_mem.mp y with ⟨y, hl⟩ | ⟨l', _, y, _⟩
            · have : (b, i, j) = (b, i, l) := nodup_inj S'.nodup q y rfl
              cases this
              omega
            · exact o4 (.inr ⟨l', y⟩)
      · have r' := OwnR.shift (N' := fun b l => ∃ l', l = l' + 1 ∧ (b, l') ∈ N) (fun b l q => ⟨l, rfl, q⟩) m 0 d v r
        refine OwnR.drop (fun b q => ?_) m 1 k d v (by omega) (fun b j q h1 h2 => ?_) (fun b j q hj y => ?_) r'
        · rcases q with q | ⟨l, q⟩
          · rcases q with q | q | ⟨j, l, hm, hc⟩
            · exact .inl (.inl q)
            · exact .inl (.inr (.inl q))
            · exact .inl (XR.unkeep' (.inr (.inr ⟨j, l, mof hm, hc⟩)))
          · rcases slotM_mem.mp q with ⟨q, _⟩ | ⟨l', _, q, _⟩
            · exact .inl (XR.unkeep' (.inr (.inr ⟨i, l, q, fun ⟨_, _, z⟩ => nomatch z⟩)))
            · exact .inr ⟨l', q⟩
        · obtain ⟨l', rfl, q⟩ := q
          exact ⟨slotM_mem.mpr (.inr ⟨l', rfl, q, by omega⟩), h1⟩
        · obtain ⟨l', rfl, q⟩ := q
          rcases y with y | ⟨l, y⟩
          · rcases y with y | y | ⟨j', l'', hm, _⟩
            · exact hX _ y _ q
            · exact (hN _ q).2 y
            · exact (S'.onew _ (mof hm)).2.2.2 (.inr ⟨l', q⟩)
          · rcases slotM_mem.mp y with ⟨y, _⟩ | ⟨l'', rfl, y, hl⟩
            · exact (S'.onew _ y).2.2.2 (.inr ⟨l', q⟩)
            · have : (b, l') = (b, l'') := nodup_inj nd q y rfl
              cases this
              omega
    refine OwnR.mono (fun b o nb e => he b o (fun q => nb (.inr ⟨0, q ▸ aM⟩)) e) (fun b o _ q => q) (fun b l o q e => ⟨q.1, he b o (fun z => ?_) e⟩) k 1 d v mid
    subst z
    have : (b, l) = (b, 0) := nodup_inj nodM q.1 aM rfl
    cases this
    exact absurd q.2 (by omega)
  have al : ∀ b, Alloc h b → Alloc h' b := fun b ⟨o, e⟩ => by
    by_cases q : b = a
    · subst q; obtain ⟨n, e⟩ := pl; exact ⟨_, e⟩
    · exact ⟨o, he b o q e⟩
  exact ⟨_, S'.replace (M := slotM (own.filter (keepB R)) N i k) hx hX hN (S'.fm.keep fun b o q e => he b o (fun z => hna (z ▸ q)) e) (fun y _ => rfl) hv hb al nodM (fun p hp => by
    obtain ⟨b, l⟩ := p
    rcases slotM_mem.mp hp with ⟨q, hl⟩ | ⟨l', rfl, q, hl⟩
    · exact ⟨.inl ⟨l, q⟩, hl⟩
    · exact ⟨.inr ⟨l', q⟩, by show l' + 1 < k + 1; omega⟩) ⟨a, ws, rfl, aM, hz, pl, r.imp item⟩⟩
end
end Mine

namespace Mine
open PySem

section
variable {prog : Program} {w : World} {h₀ : Heap} {G : List D} {K : Oracle} {lv fuel : Nat} {c : Ctx} {mg mb : Str → Option Value}

theorem down_bound {R : List (Nat × Nat)} {Δ : List Own} {i n : Nat} (h : (down R Δ).getD i none = some n) : ∃ n', Δ.getD i none = some n' := let ⟨n', e, _⟩ := down_get h; ⟨n', e⟩

/-- an owned list of a slot, seen behind the evaluation of what goes into it -/
theorem slot_list {base : Heap} {X₁ : Addr → Prop} {env : Env} {nm : List (Option Str)} {Δ : List Own} {own : Owned} {V : Str → Option Value} {ds : List D} {h : Heap} {N : List (Addr × Nat)} {R : List (Nat × Nat)} {i n : Nat} {x : Str} {xs : List D}
    (S : St w base (fun a => X₁ a ∨ ∃ l, (a, l) ∈ N) env nm Δ own V ds h) (hx : nm[i]? = some (some x)) (hn : (down R Δ).getD i none = some (n + 1)) (hd : ds[i]? = some (.list xs)) :
    ∃ a vs, V x = some (.ref a) ∧ (a, i, 0) ∈ own.filter (keepB R) ∧ xs.length ≤ LIM ∧ h.PlainList a vs ∧ All2 (OldItem w h X₁ env own N R i n) xs vs.toList := by
  obtain ⟨v, d, e1, e2, r⟩ := (S.down R).slots i (n + 1) x hx hn
  rw [hd] at e2; cases e2
  obtain ⟨a, vs, rfl, ha, hz, pl, r⟩ := r
  exact ⟨a, vs, e1, ha, hz, pl, r⟩

theorem upd_plain {h : Heap} {a : Addr} {items : Array Value} (f : Array Value → Array Value) (pl : h.PlainList a items) : (h.update a (Obj.mapSeq f)).PlainList a (f items) := by
  obtain ⟨n, ho⟩ := pl
  have e := Heap.get?_update_self (Obj.mapSeq f) ho (by simp [Obj.mapSeq]; rfl)
  simp only [Obj.mapSeq] at e
  exact ⟨_, e⟩

theorem ex_append {st : Stmt} {i : Nat} {e : CE} (he : ∀ x, chkE c x e = true → EvalOK prog w h₀ G K lv c x e) (h : chkS c st (.append i e) = true) : ExecOK prog w h₀ G K lv fuel c st (.append i e) := by
  unfold chkS at h
  split at h
  · rename_i v pos
    split at h
    · rename_i x px m a hm
      simp only [Bool.and_eq_true, nameAt, beq_iff_eq, bne_iff_ne, ne_eq] at h
      obtain ⟨⟨⟨rfl, h2⟩, h3⟩, h4⟩ := h
      obtain ⟨p, q, rfl, hl, hbase⟩ := methOf_eq hm
      intro A E s env base X₀ Δ own V ds o fall T ht hx
      rw [tyS] at ht
      split at ht
      · rename_i hc
        split at ht
        · rename_i n hn
          cases ht
          rw [execC] at hx
          obtain ⟨cc, hcc, hx⟩ := bindI hx
          obtain ⟨d, hd, hx⟩ := bindI hx
          have hx' : ∃ xs, cc = .list xs ∧ okLen (xs.length + 1) = true ∧ o = .next (ds.set i (.list (xs ++ [d]))) := by
            cases cc with
            | list xs =>
              dsimp only at hx
              split at hx
              · rename_i hk
                obtain ⟨ds', hds, rfl⟩ := mapI hx
                obtain ⟨_, rfl⟩ := setL_eq hds
                exact ⟨xs, rfl, hk, rfl⟩
              · cases hx
            | _ => simp at hx
          obtain ⟨xs, rfl, hk, rfl⟩ := hx'
          rw [okLen_iff] at hk
          obtain ⟨n₀, hn₀⟩ := down_bound hn
          obtain ⟨v₀, d₀, hV, hds, r₀⟩ := T.st.slots i n₀ x h2 hn₀
          rw [hcc] at hds; cases hds
          -- the list's place
          obtain ⟨a₀, vs₀, hV₀, ha₀, _, pl₀, _⟩ := slot_list (N := []) (X₁ := X₀) (T.st.xiff (fun a => by simp)) h2 hn hcc
          refine wpAny_Expr_any (Call_method1 (hbase env) (star_of h4) hl (wpAny_Name (T.st.fm.load (T.st.vars i x h2) hV₀ ?_) (by simpa using h3))) (by unfold interactive; rw [T.st.fm.kind]; rfl) rfl
          refine ⟨"list", "list.append", F.plainAttrs_list, F.slot_list_append, F.type_list_append, pl₀.isList.typeIs, fun a e => by cases e; obtain ⟨k, e⟩ := pl₀; exact ⟨_, e, rfl⟩, ?_⟩
          refine Calls.callWith_builtin rfl (Calls.evalArgs_plain (Calls.spliced_cons (wpAny_mono (he a h4 T hc hd) (fun v s₁ p => ?_) fun _ _ q => q)))
          obtain ⟨new, nd, hn', r⟩ := p.fresh
          have S := T.st.extend (Keeps.grow p.keeps) (Y := fun a => ∃ l, (a, l) ∈ new) fun a ⟨l, q⟩ => hn' _ q
          obtain ⟨a₁, vs, hV₁, ha, hz, pl, rr⟩ := slot_list S h2 hn hcc
          rw [hV₀] at hV₁; cases hV₁
          refine Calls.spliced_nil ?_
          show wpAny _ _ (call (.builtin "list.append") [.ref a₀, v]) _ _ s₁
          have hlen := rr.length
          rw [Array.length_toList] at hlen
          refine wpAny_list_append_plain pl (fun h' pl' hs => ?_) (by rw [hlen, ← lim_line]; exact hz)
          obtain ⟨own', S'⟩ := S.relist (m := fr e) (R := reach e) (dd := xs ++ [d]) h2 (fun a q l z => not_alloc (hn' _ z).1 (T.st.xal a q)) (fun p hp => ⟨none_of_grow T.st.keep (hn' p hp).1, fun q => not_alloc (hn' p hp).1 (T.st.fnew _ q).2⟩) nd hV₀ ha (fun b o nb e => hs.extBut b o nb e) pl' (by simpa using hk) (by
              rw [Array.toList_push]
              exact (rr.imp fun d v r => .inl r).append (.one (.inr r)))
          exact ⟨(Same.keeps p.keeps).trans ⟨h', s₁.toks, rfl⟩, rfl, _, own', V, rfl, S'⟩
        · cases ht
      · cases ht
    · cases h
  · cases h

set_option maxRecDepth 100000

theorem set_front {A : Around} {E : Value → Shared → Prop} {s : Shared} {l : Addr} {items : Array Value} {k : Int} {j : Nat} {t : Tok} {v : Value} {Q : Unit → Shared → Prop} (hl : s.heap.PlainList l items) (hk : k = Int.ofNat j) (hfit : Builtin.List.listFitsIndex k = true) (hj : j < items.size)
    (hQ : Q () { s with heap := s.heap.update l (Obj.mapSeq (·.setIfInBounds j v)) }) : wpAny (model prog w) A (setItem (.ref l) (.int k t) v) Q E s := by
  have hi := hl.isList
  obtain ⟨m, ho⟩ := hl
  unfold setItem
  try with_reducible refine wpAny_holding ?_
  first | refine wpAny_bind (wpAny_pure ?_) | skip
  refine wpAny_bind (wpAny_sequenceKey hi.typeIs (by decide) (wpAny_bind (wpAny_callSpecial?_slot (name := Str.ofString "__setitem__") hi.typeIs slot_list_setitem
    (wpAny_call_entry slot_list_setitem hi.typeIs entry_list_setitem ?_ (args_list_setitem _ _ _)))))
  show wpAny _ _ (Builtin.List.listSubscript? (.int k t) >>= _) _ _ s
  refine wpAny_bind (wpAny_listSubscript_int hfit ?_)
  clear hfit
  subst hk
  show wpAny _ _ ((seqItemAt l j >>= fun r => pure (r.map (j, ·))) >>= _) _ _ s
  refine wpAny_bind (wpAny_bind (wpAny_seqItemAt ho rfl (wpAny_pure ?_)))
  rw [Array.getElem?_eq_getElem hj]
  show wpAny _ _ (setSeqItemAt l j v >>= _) _ _ s
  refine wpAny_bind (wpAny_setSeqItemAt ho rfl ?_)
  first
    | exact wpAny_bind (wpAny_pure (wpAny_pure ⟨.none, rfl, wpAny_pure hQ⟩))
    | exact wpAny_pure ⟨.none, rfl, wpAny_pure hQ⟩

theorem set_back {A : Around} {E : Value → Shared → Prop} {s : Shared} {l : Addr} {items : Array Value} {k : Int} {n p : Nat} {t : Tok} {v : Value} {Q : Unit → Shared → Prop} (hl : s.heap.PlainList l items) (hk : k = Int.negSucc n) (hfit : Builtin.List.listFitsIndex k = true) (hp : seqIndex? k items.size = some p) (hj : p < items.size)
    (hQ : Q () { s with heap := s.heap.update l (Obj.mapSeq (·.setIfInBounds p v)) }) : wpAny (model prog w) A (setItem (.ref l) (.int k t) v) Q E s := by
  have hi := hl.isList
  obtain ⟨m, ho⟩ := hl
  unfold setItem
  try with_reducible refine wpAny_holding ?_
  first | refine wpAny_bind (wpAny_pure ?_) | skip
  refine wpAny_bind (wpAny_sequenceKey hi.typeIs (by decide) (wpAny_bind (wpAny_callSpecial?_slot (name := Str.ofString "__setitem__") hi.typeIs slot_list_setitem
    (wpAny_call_entry slot_list_setitem hi.typeIs entry_list_setitem ?_ (args_list_setitem _ _ _)))))
  show wpAny _ _ (Builtin.List.listSubscript? (.int k t) >>= _) _ _ s
  refine wpAny_bind (wpAny_listSubscript_int hfit ?_)
  clear hfit
  subst hk
  show wpAny _ _ ((Builtin.List.listItems (.ref l) >>= fun xs => pure ((seqIndex? (Int.negSucc n) xs.size).bind fun i => xs[i]?.map (i, ·))) >>= _) _ _ s
  refine wpAny_bind (wpAny_bind ?_)
  show wpAny _ _ (seqItems? (.ref l) >>= _) _ _ s
  refine wpAny_bind (wpAny_seqItems ho rfl (wpAny_pure (wpAny_pure ?_)))
  rw [hp]
  simp only [Option.bind_some, Array.getElem?_eq_getElem hj, Option.map_some]
  show wpAny _ _ (setSeqItemAt l p v >>= _) _ _ s
  refine wpAny_bind (wpAny_setSeqItemAt ho rfl ?_)
  first
    | exact wpAny_bind (wpAny_pure (wpAny_pure ⟨.none, rfl, wpAny_pure hQ⟩))
    | exact wpAny_pure ⟨.none, rfl, wpAny_pure hQ⟩

theorem set_any {A : Around} {E : Value → Shared → Prop} {s : Shared} {l : Addr} {items : Array Value} {k : Int} {p : Nat} {t : Tok} {v : Value} {Q : Unit → Shared → Prop} (hl : s.heap.PlainList l items) (hfit : Builtin.List.listFitsIndex k = true) (hp : seqIndex? k items.size = some p) (hj : p < items.size) (h0 : 0 ≤ k → k = Int.ofNat p)
    (hQ : Q () { s with heap := s.heap.update l (Obj.mapSeq (·.setIfInBounds p v)) }) : wpAny (model prog w) A (setItem (.ref l) (.int k t) v) Q E s := by
  by_cases q : 0 ≤ k
  · exact set_front hl (h0 q) hfit hj hQ
  · obtain ⟨n, hn⟩ := Int.eq_negSucc_of_lt_zero (Int.not_le.mp q)
    exact set_back hl hn hfit hp hj hQ

theorem idx_fits {j : Int} {n p : Nat} (hp : idx j n = some p) (hz : n ≤ LIM) : Builtin.List.listFitsIndex j = true ∧ (0 ≤ j → j = Int.ofNat p) := by
  have hL : LIM = 16777216 := rfl
  unfold idx at hp
  split at hp
  · rename_i h0
    split at hp
    · cases hp
      exact ⟨fitsIndex_of h0 (by omega), fun _ => (Int.toNat_of_nonneg h0).symm⟩
    · cases hp
  · rename_i h0
    split at hp
    · exact ⟨fitsIndex_neg (by omega) (by omega), fun q => absurd q h0⟩
    · cases hp

theorem ex_setItem {st : Stmt} {i : Nat} {k e : CE} (hk : ∀ x, chkE c x k = true → EvalOK prog w h₀ G K lv c x k) (he : ∀ x, chkE c x e = true → EvalOK prog w h₀ G K lv c x e) (h : chkS c st (.setItem i k e) = true) : ExecOK prog w h₀ G K lv fuel c st (.setItem i k e) := by
  unfold chkS at h
  split at h
  · rename_i x px y py v pos
    simp only [Bool.and_eq_true, nameAt, beq_iff_eq, bne_iff_ne, ne_eq] at h
    obtain ⟨⟨⟨⟨h2, h3⟩, h4⟩, h5⟩, h6⟩ := h
    intro A E s env base X₀ Δ own V ds o fall T ht hx
    rw [tyS] at ht
    split at ht
    · rename_i hc
      simp only [Bool.and_eq_true] at hc
      split at ht
      · rename_i n hn
        cases ht
        rw [execC] at hx
        obtain ⟨d, hd, hx⟩ := bindI hx
        obtain ⟨cc, hcc, hx⟩ := bindI hx
        obtain ⟨dk, hdk, hx⟩ := bindI hx
        obtain ⟨cn, hcn, hx⟩ := bindI hx
        obtain ⟨ds', hds, rfl⟩ := mapI hx
        obtain ⟨_, rfl⟩ := setL_eq hds
        have hx' : ∃ xs j p, cc = .list xs ∧ dk = .int j ∧ idx j xs.length = some p ∧ cn = .list (xs.set p d) := by
          unfold setAt at hcn
          split at hcn
          · obtain ⟨p, hp, rfl⟩ := mapI hcn
            exact ⟨_, _, p, rfl, rfl, hp, rfl⟩
          · cases hcn
        obtain ⟨xs, j, p, rfl, rfl, hp, rfl⟩ := hx'
        have hns := chk_noset h5
        have hnl : ∀ x gens sc p, v ≠ .ListComp x gens sc p := fun x gens sc p q => by subst q; cases h6
        refine wpAny_Assign_Subscript (wpAny_mono (he v h5 T hc.1 hd) (fun vv s₁ p₁ => ?_) fun _ _ q => q) (swaps_plain hnl hns.1 hns.2)
        have T₁ := T.keeps p₁.keeps
        obtain ⟨a₀, vs₀, hV₀, _, _, _, _⟩ := slot_list (N := []) (X₁ := X₀) (T.st.xiff (fun a => by simp)) h2 hn hcc
        refine wpAny_Name (T₁.st.fm.load (T₁.st.vars i x h2) hV₀ ?_) (by simpa using h3)
        refine wpAny_mono (hk y h4 T₁ hc.2 hdk) (fun vk s₂ p₂ => ?_) fun _ _ q => q
        have rk := p₂.rep T₁.st
        rw [Rep] at rk
        obtain ⟨t, rfl⟩ := rk
        obtain ⟨new, nd, hn', r⟩ := p₁.fresh
        have g₂ := Keeps.grow p₂.keeps
        have S := T.st.extend (Keeps.grow (Keeps.trans' p₁.keeps p₂.keeps)) (Y := fun a => ∃ l, (a, l) ∈ new) fun a ⟨l, q⟩ => ⟨(hn' _ q).1, (hn' _ q).2.grow g₂⟩
        obtain ⟨a₁, vs, hV₁, ha, hz, pl, rr⟩ := slot_list S h2 hn hcc
        rw [hV₀] at hV₁; cases hV₁
        have r₂ := OwnR.mono (h' := s₂.heap) (X' := fun b => XR X₀ env own (reach e) b ∨ ∃ l, (b, l) ∈ new) (N' := fun b l => (b, l) ∈ new) (g₂.but _) (fun _ _ _ q => q) (fun a l o q e => ⟨q, g₂ _ _ e⟩) _ 0 d vv r
        have hlen := rr.length
        rw [Array.length_toList] at hlen
        have hL : LIM = 16777216 := rfl
        have fin : ∀ (s' : Shared), s' = { s₂ with heap := s₂.heap.update a₀ (Obj.mapSeq (·.setIfInBounds p vv)) } →
            StPost w base X₀ env c.nm (some ((down (reach e) Δ).set i (some (min (n + 1) (1 + fr e))))) (.next (ds.set i (.list (xs.set p d)))) s .next s' := by
          rintro s' rfl
          have pl' := upd_plain (fun q => q.setIfInBounds p vv) pl
          obtain ⟨own', S'⟩ := S.relist (m := fr e) (R := reach e) (dd := xs.set p d) h2 (fun a q l z => not_alloc (hn' _ z).1 (T.st.xal a q)) (fun p hp => ⟨none_of_grow T.st.keep (hn' p hp).1, fun q => not_alloc (hn' p hp).1 (T.st.fnew _ q).2⟩) nd hV₀ ha (fun b o nb e => (Heap.get?_update_other _ _ (Ne.symm nb)).trans e) pl' (by simpa using hz) (by
            rw [show (vs.setIfInBounds p vv).toList = vs.toList.set p vv by simp]
            exact (rr.imp fun d v r => .inl r).set (.inr r₂))
          exact ⟨(Same.keeps (Keeps.trans' p₁.keeps p₂.keeps)).trans ⟨_, _, rfl⟩, rfl, _, own', V, rfl, S'⟩
        have hb := idx_seqIndex hp
        obtain ⟨f1, f2⟩ := idx_fits hp hz
        exact set_any pl f1 (by rw [hlen]; exact hb.1) (by rw [hlen]; exact hb.2) f2 (fin _ rfl)
      · cases ht
    · cases ht
  · cases h


theorem ex_reverse {st : Stmt} {i : Nat} (h : chkS c st (.reverse i) = true) : ExecOK prog w h₀ G K lv fuel c st (.reverse i) := by
  unfold chkS at h
  split at h
  · rename_i v pos
    split at h
    · rename_i x px m hm
      simp only [Bool.and_eq_true, nameAt, beq_iff_eq, bne_iff_ne, ne_eq] at h
      obtain ⟨⟨rfl, h2⟩, h3⟩ := h
      obtain ⟨p, q, rfl, hl, hbase⟩ := methOf_eq hm
      intro A E s env base X₀ Δ own V ds o fall T ht hx
      rw [tyS] at ht
      split at ht
      · rename_i n hn
        cases ht
        rw [execC] at hx
        obtain ⟨cc, hcc, hx⟩ := bindI hx
        have hx' : ∃ xs, cc = .list xs ∧ o = .next (ds.set i (.list xs.reverse)) := by
          cases cc with
          | list xs =>
            dsimp only at hx
            obtain ⟨ds', hds, rfl⟩ := mapI hx
            obtain ⟨_, rfl⟩ := setL_eq hds
            exact ⟨xs, rfl, rfl⟩
          | _ => simp at hx
        obtain ⟨xs, rfl, rfl⟩ := hx'
        have hn' : (down [] Δ).getD i none = some (n + 1) := by rw [down_nil]; exact hn
        have S : St w base (fun a => X₀ a ∨ ∃ l, (a, l) ∈ ([] : List (Addr × Nat))) env c.nm Δ own V ds s.heap := T.st.xiff (fun a => by simp)
        obtain ⟨a₀, vs, hV₀, ha, hz, pl, rr⟩ := slot_list S h2 hn' hcc
        have hlen := rr.length
        rw [Array.length_toList] at hlen
        refine wpAny_Expr_any (Call_method0 (hbase env) hl (wpAny_Name (T.st.fm.load (T.st.vars i x h2) hV₀ ?_) (by simpa using h3))) (by unfold interactive; rw [T.st.fm.kind]; rfl) rfl
        refine ⟨"list", "list.reverse", F.plainAttrs_list, F.slot_list_reverse, F.type_list_reverse, pl.isList.typeIs, fun a e => by cases e; obtain ⟨k, e⟩ := pl; exact ⟨_, e, rfl⟩, ?_⟩
        refine Calls.callWith_builtin rfl (PyProof.Rows.evalArgs_empty ?_)
        show wpAny _ _ (call (.builtin "list.reverse") [.ref a₀]) _ _ s
        obtain ⟨m, hpl⟩ := id pl
        refine call_meets F.slot_list_reverse pl.isList.typeIs F.entry_list_reverse (F.args_list_reverse_1 _) (AutoSeq1.list_reverse_list_0 a₀ vs m (by rw [← lim_line]; omega)) ⟨hpl, ?_⟩
        have pl' := upd_plain (fun q => q.reverse) pl
        obtain ⟨own', S'⟩ := S.relist (m := n) (R := []) (dd := xs.reverse) h2 (fun a q l z => nomatch z) (fun p hp => nomatch hp) List.nodup_nil hV₀ ha (fun b o nb e => (Heap.get?_update_other _ _ (Ne.symm nb)).trans e) pl' (by simpa using hz) (by
          rw [Array.toList_reverse]
          exact (rr.imp fun d v r => .inl r).reverse)
        refine ⟨⟨_, _, rfl⟩, rfl, _, own', V, rfl, ?_⟩
        have e : (down [] Δ).set i (some (min (n + 1) (1 + n))) = Δ := by
          rw [down_nil, show min (n + 1) (1 + n) = n + 1 by omega]
          refine List.ext_getElem (by simp) fun j h1 h2 => ?_
          rw [List.getElem_set]
          split
          · rename_i q
            subst q
            rw [List.getD_eq_getElem?_getD, List.getElem?_eq_getElem h2] at hn
            exact hn.symm
          · rfl
        rw [e] at S'
        exact S'
      · cases ht
    · cases h
  · cases h

theorem ex_raise {st : Stmt} {k : Nat} : ExecOK prog w h₀ G K lv fuel c st (.raise k) := by
  intro A E s env base X₀ Δ own V ds o fall T ht hx
  rw [execC] at hx; cases hx

theorem okS {fn gl : List Str} (GL : Glo w h₀ mg mb gl G) (KS : KSpec prog w h₀ mg fn lv K) (hfn : c.fn = fn) (hgl : c.gl = gl) : ∀ (n : Nat), (∀ (cs : CS), sizeOf cs < n → ∀ st, chkS c st cs = true → ExecOK prog w h₀ G K lv fuel c st cs) ∧
    (∀ (cs : List CS), sizeOf cs < n → ∀ st, chkSs c st cs = true → ExecsOK prog w h₀ G K lv fuel c st cs) := by
  have ev : ∀ (e : CE) (x : Expr), chkE c x e = true → EvalOK prog w h₀ G K lv c x e := fun e x h => evalOK GL KS hfn hgl h
  have tr : ∀ (e : CE) (x : Expr), chkE c x e = true → TrueOK prog w h₀ G K lv c x e := fun e x h => trueOK GL KS hfn hgl h
  have ito : ∀ (e : CE) (x : Expr), chkE c x e = true → ItOK prog w h₀ G K lv c x e := fun e x h => itOK GL KS hfn hgl h
  have co : ∀ (e : CE) (x : Expr), chkE c x e = true → (∃ y gens sc p, x = .ListComp y gens sc p) → CompOK prog w h₀ G K lv c x e := fun e x h hl => by
    obtain ⟨y, gens, sc, p, rfl⟩ := hl
    cases e with
    | comp elt nt it => exact co_comp (fun c' x hf hg hx => evalOK GL KS (hf.trans hfn) (hg.trans hgl) hx) (fun x hx => ito it x hx) h
    | _ => cases chk_comp h
  intro n
  induction n with
  | zero => exact ⟨fun _ h => absurd h (Nat.not_lt_zero _), fun _ h => absurd h (Nat.not_lt_zero _)⟩
  | succ n ih =>
    refine ⟨fun cs hsz st h => ?_, fun cs hsz st h => ?_⟩
    · cases cs with
      | assign i e => exact ex_assign (ev e) (co e) h
      | setItem i k e => exact ex_setItem (ev k) (ev e) h
      | append i e => exact ex_append (ev e) h
      | reverse i => exact ex_reverse h
      | expr e => exact ex_expr (ev e) h
      | ret e => exact ex_ret (ev e) h
      | ite b t f => exact ex_ite (tr b) (ih.2 t (by simp at hsz; omega)) (ih.2 f (by simp at hsz; omega)) h
      | «for» xs it b => exact ex_for (ito it) (ih.2 b (by simp at hsz; omega)) h
      | raise k => exact ex_raise
    · cases cs with
      | nil => exact exs_nil h
      | cons t ts => exact exs_cons (ih.1 t (by simp at hsz; omega)) (ih.2 ts (by simp at hsz; omega)) h

theorem execsOK {fn gl : List Str} (GL : Glo w h₀ mg mb gl G) (KS : KSpec prog w h₀ mg fn lv K) (hfn : c.fn = fn) (hgl : c.gl = gl) {st : List Stmt} {cs : List CS} (h : chkSs c st cs = true) : ExecsOK prog w h₀ G K lv fuel c st cs := (okS GL KS hfn hgl _).2 cs (Nat.lt_succ_self _) st h
end
end Mine

namespace Mine
open PySem

noncomputable def plainParams (p : Arguments) (ps : List Str) : Bool := p.posonlyargs.isEmpty && p.kwonlyargs.isEmpty && p.vararg.isNone && p.kwarg.isNone && p.args.map (·.arg) == ps

theorem fmap_congr {α β : Type} {f g : α → Option β} : ∀ {l : List α}, (∀ x ∈ l, f x = g x) → l.filterMap f = l.filterMap g
  | [], _ => rfl
  | x :: l, h => by rw [List.filterMap_cons, List.filterMap_cons, h x List.mem_cons_self, fmap_congr fun y hy => h y (List.mem_cons_of_mem _ hy)]
theorem zip_lookup : ∀ {ps : List Str} {vs : List Value}, ps.Nodup → ps.length = vs.length → ps.filterMap (fun n => ((ps.zip vs).lookup n).map (n, ·)) = ps.zip vs ∧ ∀ n ∈ ps, ((ps.zip vs).lookup n).isSome = true
  | [], [], _, _ => ⟨rfl, fun _ h => nomatch h⟩
  | p :: ps, v :: vs, nd, hl => by
    rw [List.nodup_cons] at nd
    obtain ⟨h1, h2⟩ := zip_lookup (ps := ps) (vs := vs) nd.2 (by simpa using hl)
    have ne : ∀ n ∈ ps, (n == p) = false := fun n hn => by
      rw [beq_eq_false_iff_ne]; intro e; subst e; exact nd.1 hn
    constructor
    · rw [List.filterMap_cons]
      simp only [List.zip_cons_cons, List.lookup_cons_self, Option.map_some]
      congr 1
      refine (fmap_congr fun n hn => ?_).trans h1
      rw [List.lookup_cons, ne n hn]
    · intro n hn
      rw [List.zip_cons_cons, List.lookup_cons]
      cases e : n == p with
      | true => rfl
      | false =>
        rcases List.mem_cons.mp hn with rfl | hn
        · simp at e
        · exact h2 n hn
  | [], _ :: _, _, hl => by simp at hl
  | _ :: _, [], _, hl => by simp at hl

theorem binds_plain {fd : FuncData} {ps : List Str} {vs : List Value} (hp : plainParams fd.params ps = true) (hd : fd.defaults = .none) (nd : ps.Nodup) (hl : ps.length = vs.length) : bindArgs fd ⟨vs, []⟩ = pure (ps.zip vs) := by
  obtain ⟨name, qual, ⟨po, ar, va, ko, kd, kw, de⟩, body, scope, globals, closure, defaults, kwd, doc, pm, an, code, ct, bi⟩ := fd
  simp only [plainParams, Bool.and_eq_true, List.isEmpty_iff, Option.isNone_iff_eq_none, beq_iff_eq] at hp
  obtain ⟨⟨⟨⟨rfl, rfl⟩, rfl⟩, rfl⟩, rfl⟩ := hp
  dsimp only at hd
  subst hd
  obtain ⟨h1, h2⟩ := zip_lookup nd hl
  have hm : ∀ n, (List.filter (fun n => ((List.map (fun x => x.arg) ar).zip vs |>.lookup n).isNone) (List.take n (List.map (fun x => x.arg) ar))) = [] := fun n => by
    rw [List.filter_eq_nil_iff]
    intro x hx
    have := h2 x (List.mem_of_mem_take hx)
    cases e : ((List.map (fun x => x.arg) ar).zip vs).lookup x with
    | none => rw [e] at this; cases this
    | some v => simp
  unfold bindArgs
  have hs : seqItems? .none = pure none := rfl
  have hlen : ¬ (vs.length > (List.map (fun x : Arg => x.arg) ar).length) := by rw [← hl]; exact Nat.lt_irrefl _
  simp only [List.map_nil, List.nil_append, List.append_nil, List.forIn_nil, pure_bind, hs, Option.getD_none, List.drop_nil, List.length_nil, Nat.sub_zero, hm, List.isEmpty_nil, Bool.not_true, h1]
  rw [List.length_map] at hlen
  simp [hlen]
  exact congrArg pure (by rw [← List.filterMap_map]; exact h1)

theorem bindL_notin {k : Str → Option NameKind} {x : Str} : ∀ {bs : List (Str × Value)} {m : Str → Option Value}, (∀ b ∈ bs, b.1 ≠ x) → bindL k bs m x = m x
  | [], _, _ => rfl
  | (n, v) :: r, m, h => by
    rw [bindL, bindL_notin fun b hb => h b (List.mem_cons_of_mem _ hb)]
    split
    · exact if_neg (Ne.symm (h _ List.mem_cons_self))
    · rfl
theorem bindC_notin {k : Str → Option NameKind} {x : Str} : ∀ {bs : List (Str × Value)} {m : Str → Option Value}, (∀ b ∈ bs, b.1 ≠ x) → bindC k bs m x = m x
  | [], _, _ => rfl
  | (n, v) :: r, m, h => by
    rw [bindC, bindC_notin fun b hb => h b (List.mem_cons_of_mem _ hb)]
    split
    · rfl
    · exact if_neg (Ne.symm (h _ List.mem_cons_self))
theorem bind_get {k : Str → Option NameKind} : ∀ {ps : List Str} {vs : List Value} {m cm : Str → Option Value} {i : Nat} {x : Str} {v : Value}, ps.Nodup → ps[i]? = some x → vs[i]? = some v →
    (if k x = some .local then bindL k (ps.zip vs) m x else bindC k (ps.zip vs) cm x) = some v
  | [], _, _, _, _, _, _, _, h, _ => by simp at h
  | _ :: _, [], _, _, _, _, _, _, _, h => by simp at h
  | p :: ps, u :: vs, m, cm, i, x, v, nd, h, h' => by
    rw [List.nodup_cons] at nd
    cases i with
    | zero =>
      simp only [List.getElem?_cons_zero, Option.some.injEq] at h h'
      subst h h'
      have no : ∀ b ∈ ps.zip vs, b.1 ≠ p := fun b hb e => nd.1 (e ▸ (List.of_mem_zip hb).1)
      rw [List.zip_cons_cons, bindL, bindC, bindL_notin no, bindC_notin no]
      split
      · exact if_pos rfl
      · exact if_pos rfl
    | succ i =>
      simp only [List.getElem?_cons_succ] at h h'
      rw [List.zip_cons_cons, bindL, bindC]
      exact bind_get nd.2 h h'

theorem cells_some {x : Str} : ∀ {names : List (Str × NameKind)} {n : Nat} {acc : List (Str × Addr)}, ((x, NameKind.cell) ∈ names ∨ (acc.lookup x).isSome = true) → ((cellsFrom n names acc).lookup x).isSome = true
  | [], _, _, h => by
    rcases h with h | h
    · cases h
    · exact h
  | (y, k) :: r, n, acc, h => by
    rw [cellsFrom]
    split
    · rename_i hk
      refine cells_some ?_
      rcases h with h | h
      · rcases List.mem_cons.mp h with e | h
        · cases e; right; rw [List.lookup_cons_self]; rfl
        · exact .inl h
      · right
        rw [List.lookup_cons]
        cases x == y <;> simp [h]
    · rename_i hk
      refine cells_some ?_
      rcases h with h | h
      · rcases List.mem_cons.mp h with e | h
        · cases e; simp at hk
        · exact .inl h
      · exact .inr h
end Mine

namespace Mine
open PySem

noncomputable def startD (F : CF) : List Own := List.replicate F.np (some 0) ++ List.replicate (F.ns - F.np) none
noncomputable def chkF (fn gl : List Str) (p : Arguments) (body : List Stmt) (sc : Scope) (F : CF) (nm : List Str) : Bool :=
  plainParams p (nm.take F.np) && decide (F.np ≤ F.ns) && nm.length == F.ns && decide nm.Nodup && nm.all (fun x => sc.names.lookup x == some .local || sc.names.lookup x == some .cell) &&
    sc.kind == .function && !sc.isGenerator && !sc.isCoroutine && chkSs ⟨fn, gl, sc, nm.map some⟩ body F.body && (tySs F.body (startD F)).isSome

structure FunOk (h₀ : Heap) (mg : Str → Option Value) (fn gl : List Str) (x : Str) (F : CF) (fa : Addr) (fd : FuncData) (bd : List Stmt) (nm : List Str) : Prop where
  at_ : mg x = some (.ref fa)
  obj : ∃ o, h₀.get? fa = some o ∧ o.data = .func fd
  globals : fd.globals = mainGlobals
  builtins : fd.builtins = builtinsNs
  closure : fd.closure = []
  defaults : fd.defaults = .none
  code : h₀.CodeRec fd.code fd.qualname
  body : fd.body = .stmts bd
  chk : chkF fn gl fd.params bd fd.scope F nm = true

theorem AOk.deeper {n : Nat} {A : Around} {env : Env} (h : AOk (n + 1) A) : AOk n (A.deeper env) := ⟨h.handled, by have := h.depth; show A.depth + 1 + n < 900; omega, by have := h.units; show A.units + 3 + 10 * n + 100 < cLine; omega⟩

theorem nodup_index {α : Type} : ∀ {l : List α} {i j : Nat} {x : α}, l.Nodup → l[i]? = some x → l[j]? = some x → i = j
  | [], _, _, _, _, h, _ => by simp at h
  | y :: l, i, j, x, nd, h, h' => by
    rw [List.nodup_cons] at nd
    cases i with
    | zero => cases j with
      | zero => rfl
      | succ j =>
        simp at h h'
        subst h
        exact absurd (List.mem_of_getElem? h') nd.1
    | succ i => cases j with
      | zero =>
        simp at h h'
        subst h'
        exact absurd (List.mem_of_getElem? h) nd.1
      | succ j =>
        simp at h h'
        rw [nodup_index nd.2 h h']

section
variable {prog : Program} {w : World} {h₀ : Heap} {mg mb : Str → Option Value} {fn gl : List Str} {G : List D}

theorem run_ok {K : Oracle} {lv fuel : Nat} (GL : Glo w h₀ mg mb gl G) (KS : KSpec prog w h₀ mg fn lv K) {x : Str} {F : CF} {fa : Addr} {fd : FuncData} {body : List Stmt} {nm : List Str} (H : FunOk h₀ mg fn gl x F fa fd body nm) {args : List D} {r : D} (hr : runF G K fuel F args = some r)
    {A : Around} {s : Shared} {vs : List Value} {X : Addr → Prop} {E : Value → Shared → Prop} (hA : AOk (lv + 1) A) (gr : Grow h₀ s.heap) (hX : ∀ a, X a → Alloc s.heap a ∧ h₀.get? a = none) (rl : RepL w s.heap X args vs) :
    wpAny (model prog w) A (call (.ref fa) vs) (fun v s' => Keeps s s' ∧ Rep w s'.heap X r v) E s := by
  have hchk := H.chk
  simp only [chkF, Bool.and_eq_true, beq_iff_eq, decide_eq_true_eq, Bool.not_eq_true', List.all_eq_true, Bool.or_eq_true] at hchk
  obtain ⟨⟨⟨⟨⟨⟨⟨⟨⟨hp, hns⟩, hnl⟩, hnd⟩, hkinds⟩, hk⟩, hg⟩, hco⟩, hb⟩, hty⟩ := hchk
  obtain ⟨fall, hty⟩ := Option.isSome_iff_exists.mp hty
  unfold runF at hr
  split at hr
  · rename_i hlen
    obtain ⟨out, hout, hr⟩ := mapI hr
    obtain ⟨o, ho, hod⟩ := H.obj
    have hvs := rl.length
    have ndp : (nm.take F.np).Nodup := hnd.sublist (List.take_sublist _ _)
    have lp : (nm.take F.np).length = vs.length := by rw [List.length_take, hvs, hlen, hnl]; omega
    have hkind : ∀ b ∈ (nm.take F.np).zip vs, fd.scope.names.lookup b.1 = some .local ∨ (fd.scope.names.lookup b.1 = some .cell ∧ ((cellsFrom (s.heap.objs.size + 1) fd.scope.names []).lookup b.1).isSome = true) := fun b hb => by
      rcases hkinds b.1 (List.mem_of_mem_take (List.of_mem_zip hb).1) with q | q
      · exact .inl q
      · exact .inr ⟨q, cells_some (.inl (mem_of_lookup q))⟩
    refine wpAny_call (codeAny_call_cells (Nat.lt_of_lt_of_le (Nat.lt_of_le_of_lt (Nat.le_add_right _ _) hA.depth) (by decide)) (gr _ _ ho) hod ?_ (H.code.keeps gr) H.body (binds_plain hp H.defaults ndp lp) H.closure hkind (fun s₁ ic => ?_) hco hg hk)
    · exact GL.nolimit.keeps gr
    generalize hL : s.heap.objs.size = L at ic ⊢
    let env := callEnvC fd L fa
    let k := env.kindOf
    let V : Str → Option Value := fun y => if k y = some .local then bindL k ((nm.take F.np).zip vs) (fun _ => none) y else bindC k ((nm.take F.np).zip vs) (fun _ => none) y
    have fresh : ∀ a, L ≤ a → s.heap.get? a = none := fun a ha => by
      cases e : s.heap.get? a with
      | none => rfl
      | some o => exact absurd (Heap.lt_size e) (by rw [hL]; exact Nat.not_lt.mpr ha)
    have above : ∀ a, FrameAddr env a → L ≤ a := by
      rintro a (rfl | ⟨x, hx⟩)
      · exact Nat.le_refl _
      · exact Nat.le_of_lt (ic.above x a (mem_of_lookup hx))
    have FM : Fm env s₁.heap V := by
      refine ⟨hk, ⟨_, ic.toInCall.ns, fun y hy => ?_⟩, fun y hy => ?_, fun y z c h1 h2 => name_of_addr ic.apart (mem_of_lookup h1) (mem_of_lookup h2), fun y c hc => ?_⟩
      · show _ = if k y = some .local then _ else _
        rw [if_pos hy]
      · obtain ⟨c, hc⟩ := Option.isSome_iff_exists.mp (cells_some (n := L + 1) (acc := []) (.inl (mem_of_lookup (show fd.scope.names.lookup y = some .cell from hy))))
        refine ⟨c, hc, ?_⟩
        have := ic.cell y c hc
        show s₁.heap.IsCell c (if k y = some .local then _ else _)
        rw [if_neg (by rw [show k y = some .cell from hy]; simp)]
        exact this
      · exact Nat.ne_of_gt (ic.above y c (mem_of_lookup hc))
    have keep : Grow s.heap s₁.heap := ic.toInCall.keep
    have S : St w s.heap X env (nm.map some) (startD F) [] V (args ++ List.replicate (F.ns - F.np) .none) s₁.heap := by
      refine ⟨keep, fun a q => (hX a q).1.grow keep, FM, fun a q => ⟨fresh a (above a q), ?_⟩, (fun _ q => nomatch q), by simp, fun i y hy => ?_, fun i j y hi hj => ?_, ?_, ?_, (fun _ q => nomatch q), fun i n y hy hn => ?_⟩
      · rcases q with rfl | ⟨y, hy⟩
        · obtain ⟨o, _, _, q, _⟩ := ic.toInCall.ns; exact ⟨o, q⟩
        · obtain ⟨o, q, _⟩ := ic.cell y a hy; exact ⟨o, q⟩
      · have : y ∈ nm := by
          rw [List.getElem?_map] at hy
          obtain ⟨z, hz, e⟩ := mapI hy
          cases e; exact List.mem_of_getElem? hz
        exact hkinds y this
      · rw [List.getElem?_map] at hi hj
        obtain ⟨z, hz, e⟩ := mapI hi
        cases e
        obtain ⟨z', hz', e⟩ := mapI hj
        cases e
        obtain ⟨hi', ei⟩ := List.getElem?_eq_some_iff.mp hz
        obtain ⟨hj', ej⟩ := List.getElem?_eq_some_iff.mp hz'
        exact nodup_index hnd hz hz'
      · simp [startD, hnl]; omega
      · simp [hlen, hnl]; omega
      · rw [List.getD_eq_getElem?_getD] at hn
        have hi : i < F.np ∧ n = 0 := by
          by_cases q : i < F.np
          · rw [startD, List.getElem?_append_left (by simpa using q), List.getElem?_replicate, if_pos q] at hn
            cases hn; exact ⟨q, rfl⟩
          · rw [startD, List.getElem?_append_right (by simpa using q), List.getElem?_replicate] at hn
            split at hn <;> cases hn
        obtain ⟨hi, rfl⟩ := hi
        rw [List.getElem?_map] at hy
        obtain ⟨z, hz, e⟩ := mapI hy
        cases e
        have hia : i < args.length := by omega
        have hiv : i < vs.length := by omega
        obtain ⟨v, hv, rv⟩ := rl.get (List.getElem?_eq_getElem hia)
        refine ⟨v, args[i], bind_get (k := k) ndp (by rw [List.getElem?_take, if_pos hi]; exact hz) hv, by rw [List.getElem?_append_left hia]; exact List.getElem?_eq_getElem hia, ?_⟩
        refine Rep.mono (fun b o nb e => keep b o e) (fun b o hb q => ?_) rv
        rcases q with q | q | ⟨_, _, q, _⟩
        · exact q
        · rw [fresh b (above b q)] at hb; cases hb
        · cases q
    have T : Sit w h₀ lv ⟨fn, gl, fd.scope, nm.map some⟩ (A.deeper env) env s.heap X (startD F) [] V (args ++ List.replicate (F.ns - F.np) .none) s₁ :=
      ⟨hA.deeper, ⟨H.globals, H.builtins, rfl⟩, S, gr, fun a q => (hX a q).2⟩
    refine wpAny_mono (execsOK GL KS (c := ⟨fn, gl, fd.scope, nm.map some⟩) rfl rfl hb T hty hout) (fun f s₂ p => ?_) fun _ _ q => q
    · have sm : Same s s₂ := Same.trans ic.toInCall.same p.1
      cases out with
      | next ds' =>
        obtain ⟨_, rfl, Δ', own', V', _, S'⟩ := p
        cases hr
        exact ⟨sm.to S'.keep, by rw [Rep]⟩
      | ret d =>
        cases hr
        obtain ⟨_, v, rfl, g, _, rr⟩ := p
        exact ⟨sm.to g, rr⟩
  · cases hr

theorem kspec {P : Prog} {fuel : Nat} (GL : Glo w h₀ mg mb gl P.globs) (H : ∀ (f : Nat) (x : Str) (F : CF), fn[f]? = some x → P.funs[f]? = some F → ∃ fa fd body nm, FunOk h₀ mg fn gl x F fa fd body nm) : ∀ n, KSpec prog w h₀ mg fn n (callC P fuel n) := by
  intro n
  induction n with
  | zero => intro f args r x _ h; cases h
  | succ n ih =>
    intro f args r x hx h
    rw [callC] at h
    obtain ⟨F, hF, h⟩ := bindI h
    obtain ⟨fa, fd, body, nm, ok⟩ := H f x F hx hF
    obtain ⟨o, ho, hod⟩ := ok.obj
    exact ⟨fa, o, fd, ok.at_, ho, hod, fun A s vs X E hA gr hX rl => run_ok GL ih ok h hA gr hX rl⟩
end
end Mine

namespace Mine
open PySem PySem.W PyProof.Rows

noncomputable def samePy : PyData → D → Bool
  | .none, .none => true
  | .bool a, .bool b => a == b
  | .int i, .int j => i == j
  | .str s, .str t => s.cps.toList == t && decide (t.length ≤ LIM) && t.all (· < 0x110000)
  | _, _ => false
theorem samePy_rep {w : World} {h : Heap} {v : Value} {pd : PyData} {d : D} (r : Reads h v pd []) (e : samePy pd d = true) : Rep w h (fun _ => False) d v := by
  unfold samePy at e
  split at e
  · cases r; rw [Rep]
  · cases r; rw [Rep, eq_of_beq e]
  · cases r; rw [Rep, ← eq_of_beq e]; exact ⟨_, rfl⟩
  · rename_i s t
    simp only [Bool.and_eq_true, beq_iff_eq] at e
    have : s = SS t := by rw [← e.1.1]
    subst this
    cases r
    rw [Rep]
    exact ⟨of_decide_eq_true e.1.2, fun c hc => by simpa using (List.all_eq_true.mp e.2) c hc, _, rfl⟩
  · cases e

noncomputable def freeName (p : Program) (loose : List Str) (x : Str) : Bool := !(startupNames ++ loose ++ (recsOf p).map (·.name) ++ (litsOf p).map (·.1) ++ (clssOf p loose).map (·.name)).contains x
noncomputable def isDict : D → Bool
  | _ => false
noncomputable def chkG (p : Program) : List Str → List D → Bool
  | [], [] => true
  | x :: xs, d :: ds => (isDict d || (match valOf p x with | some pd => samePy pd d | none => false)) && chkG p xs ds
  | _, _ => false
noncomputable def chkFs (p : Program) (fn gl : List Str) : List Str → List CF → List (List Str) → Bool
  | [], [], [] => true
  | x :: xs, F :: Fs, nm :: nms => (match (recsOf p).find? (·.name == x) with | some d => chkF fn gl d.params d.body d.scope F nm | none => false) && chkFs p fn gl xs Fs nms
  | _, _, _ => false
noncomputable def chkAll (p : Program) (loose : List Str) (fn gl : List Str) (P : Prog) (nms : List (List Str)) : Bool :=
  biTable.all (fun q => freeName p loose q.1) && chkG p gl P.globs && chkFs p fn gl fn P.funs nms

theorem chkG_get {p : Program} : ∀ {gl : List Str} {G : List D} {i : Nat} {x : Str} {d : D}, chkG p gl G = true → gl[i]? = some x → G[i]? = some d → isDict d = true ∨ ∃ pd, valOf p x = some pd ∧ samePy pd d = true
  | [], [], _, _, _, _, h, _ => by simp at h
  | y :: gl, e :: G, i, x, d, hc, h, h' => by
    rw [chkG] at hc
    simp only [Bool.and_eq_true, Bool.or_eq_true] at hc
    cases i with
    | zero =>
      simp at h h'
      subst h h'
      rcases hc.1 with q | q
      · exact .inl q
      · split at q
        · rename_i pd hp; exact .inr ⟨pd, hp, q⟩
        · cases q
    | succ i => simp at h h'; exact chkG_get hc.2 h h'
  | [], _ :: _, _, _, _, hc, _, _ => by simp [chkG] at hc
  | _ :: _, [], _, _, _, hc, _, _ => by simp [chkG] at hc
theorem chkFs_get {p : Program} {fn gl : List Str} : ∀ {xs : List Str} {Fs : List CF} {nms : List (List Str)} {i : Nat} {x : Str} {F : CF}, chkFs p fn gl xs Fs nms = true → xs[i]? = some x → Fs[i]? = some F →
    ∃ d ∈ recsOf p, ∃ nm, d.name = x ∧ chkF fn gl d.params d.body d.scope F nm = true
  | [], _, _, _, _, _, _, h, _ => by simp at h
  | y :: xs, [], _, _, _, _, _, _, h => by simp at h
  | y :: xs, e :: Fs, [], _, _, _, hc, _, _ => by simp [chkFs] at hc
  | y :: xs, e :: Fs, nm :: nms, i, x, F, hc, h, h' => by
    rw [chkFs] at hc
    simp only [Bool.and_eq_true] at hc
    cases i with
    | zero =>
      simp at h h'
      subst h h'
      have q := hc.1
      split at q
      · rename_i d hd
        exact ⟨d, List.mem_of_find?_eq_some hd, nm, by simpa using List.find?_some hd, q⟩
      · cases q
    | succ i => simp at h h'; exact chkFs_get hc.2 h h'

theorem boot_table : ∀ q ∈ biTable, q.1 ≠ ("__name__" : Str) ∧ bootBuiltins q.1 = some q.2 := by
  have : (biTable.all fun q => q.1 != ("__name__" : Str) && decide (bootBuiltins q.1 = some q.2)) = true := by decide +kernel
  intro q hq
  have := List.all_eq_true.mp this q hq
  simpa using this

section
variable {prog : Program} {w : World} {p : Program} {loose : List Str} {mean : ExcName → Option Value} {mg mb : Str → Option Value} {h : Heap} {fn gl : List Str} {P : Prog} {nms : List (List Str)}

theorem glo_of_top (T : Top p loose mean mg mb h) (hc : chkAll p loose fn gl P nms = true) (hd : ∀ (i : Nat) (x : Str) (d : D), gl[i]? = some x → P.globs[i]? = some d → isDict d = true → ∃ v, mg x = some v ∧ Rep w h (fun _ => False) d v) : Glo w h mg mb gl P.globs := by
  simp only [chkAll, Bool.and_eq_true] at hc
  refine ⟨T.g, T.b, T.nolimit, fun q hq => ⟨?_, ?_⟩, fun i x d hx hG => ?_⟩
  · have := List.all_eq_true.mp hc.1.1 q hq
    simp only [freeName, Bool.not_eq_true', List.contains_eq_mem, decide_eq_false_iff_not, List.mem_append, not_or] at this
    obtain ⟨⟨⟨⟨h1, h2⟩, h3⟩, h4⟩, h5⟩ := this
    exact T.free q.1 h1 h2 h3 h4 h5
  · obtain ⟨h1, h2⟩ := boot_table q hq
    rw [T.builtins q.1 h1, h2]
  · rcases chkG_get hc.1.2 hx hG with q | ⟨pd, hp, hs⟩
    · exact hd i x d hx hG q
    · obtain ⟨v, hv, r⟩ := T.const x pd hp
      exact ⟨v, hv, samePy_rep (r h) hs⟩

theorem funs_of_top (T : Top p loose mean mg mb h) (hc : chkAll p loose fn gl P nms = true) (f : Nat) (x : Str) (F : CF) (hx : fn[f]? = some x) (hF : P.funs[f]? = some F) : ∃ fa fd body nm, FunOk h mg fn gl x F fa fd body nm := by
  simp only [chkAll, Bool.and_eq_true] at hc
  obtain ⟨d, hd, nm, rfl, hk⟩ := chkFs_get hc.2 hx hF
  obtain ⟨a, o, pm, code, doc, h1, h2, h3, h4⟩ := T.fn d hd
  exact ⟨a, _, d.body, nm, h1, ⟨o, h2, h3⟩, rfl, rfl, rfl, rfl, h4, rfl, hk⟩

theorem well_ints {Pm : Params} {X : Addr → Prop} : ∀ {ns : List Int} {vs : List Value}, WellAll Pm h vs (ofPys (ns.map .int)) → RepL w h X (ns.map D.int) vs
  | [], vs, r => by cases r; exact .nil
  | n :: ns, vs, r => by
    rw [List.map_cons, ofPys] at r
    cases r with
    | cons r1 r2 =>
      rw [ofPy] at r1
      cases r1
      rw [List.map_cons]
      exact .cons (by rw [Rep]; exact ⟨_, rfl⟩) (well_ints r2)

theorem law_call {s : Shared} {fuel lvl LAW : Nat} {fa a : Addr} {ns : List Int} {x : Str} {E : Value → Shared → Prop} (T : Top p loose mean mg mb s.heap) (hc : chkAll p loose fn gl P nms = true)
    (hd : ∀ (i : Nat) (x : Str) (d : D), gl[i]? = some x → P.globs[i]? = some d → isDict d = true → ∃ v, mg x = some v ∧ Rep w s.heap (fun _ => False) d v)
    (hfn : fn[LAW]? = some x) (hmg : mg x = some (.ref fa)) (hl : lvl ≤ 100) (w1 : Well w.params s.heap (.ref a) (ofPy (.list (ns.map .int)))) (hn : ns.length ≤ 63)
    (hp : callC P fuel lvl LAW [.list (ns.map .int)] = some (.bool true)) :
    wpAny (model prog w) callerA (call (.ref fa) [.ref a]) (fun v s' => v = .bool true ∧ Keeps s s') E s := by
  have GL := glo_of_top T hc hd
  obtain ⟨fa', o, fd, h1, _, _, H⟩ := kspec (prog := prog) (fuel := fuel) GL (funs_of_top T hc) lvl LAW _ _ x hfn hp
  rw [hmg] at h1; cases h1
  have rl : RepL w s.heap (fun _ => False) [.list (ns.map .int)] [.ref a] := by
    refine .cons ?_ .nil
    rw [ofPy] at w1
    cases w1 with
    | list ho ra =>
      rw [Rep]
      exact ⟨_, _, rfl, fun q => q, by rw [List.length_map]; exact Nat.le_trans hn (by decide), ⟨_, ho⟩, well_ints ra⟩
  refine wpAny_mono (H callerA s [.ref a] (fun _ => False) E ⟨rfl, ?_, ?_⟩ (.refl _) (fun _ q => q.elim) rl) (fun v s' p => ⟨?_, p.1⟩) fun _ _ q => q
  · show 1 + claimMargin + lvl < 900
    have : claimMargin ≤ 300 := by decide
    omega
  · show 4 + 10 * lvl + 100 < cLine
    have : cLine = 9900 := rfl
    omega
  · have := p.2
    rw [Rep] at this
    exact this
end
end Mine

namespace Mine

theorem call_f {P : Prog} {fuel n f : Nat} {F : CF} {args : List D} (h : P.funs[f]? = some F) : callC P fuel (n + 1) f args = runF P.globs (callC P fuel n) fuel F args := by
  rw [callC, h]; rfl
theorem run_ret {G : List D} {K : Oracle} {fuel : Nat} {F : CF} {args : List D} {d : D} (hn : args.length = F.np) (h : execCs G K fuel F.body (args ++ List.replicate (F.ns - F.np) .none) = some (.ret d)) : runF G K fuel F args = some d := by
  unfold runF; rw [if_pos hn, h]; rfl
theorem run_end {G : List D} {K : Oracle} {fuel : Nat} {F : CF} {args env : List D} (hn : args.length = F.np) (h : execCs G K fuel F.body (args ++ List.replicate (F.ns - F.np) .none) = some (.next env)) : runF G K fuel F args = some .none := by
  unfold runF; rw [if_pos hn, h]; rfl
section
variable {G : List D} {K : Oracle} {fuel : Nat}
theorem seq_next {s : CS} {r : List CS} {env env' : List D} {o : Option Out} (h : execC G K fuel s env = some (.next env')) (h' : execCs G K fuel r env' = o) : execCs G K fuel (s :: r) env = o := by
  rw [execCs, h]; exact h'
theorem seq_ret {s : CS} {r : List CS} {env : List D} {d : D} (h : execC G K fuel s env = some (.ret d)) : execCs G K fuel (s :: r) env = some (.ret d) := by
  rw [execCs, h]; rfl
theorem seq_nil {env : List D} : execCs G K fuel [] env = some (.next env) := by rw [execCs]
theorem s_assign {x : Nat} {e : CE} {env : List D} {d : D} (h : evalC G K e env = some d) (hx : x < env.length) : execC G K fuel (.assign x e) env = some (.next (env.set x d)) := by
  rw [execC, h]; simp [setL, hx]
theorem s_ret {e : CE} {env : List D} {d : D} (h : evalC G K e env = some d) : execC G K fuel (.ret e) env = some (.ret d) := by rw [execC, h]; rfl
theorem s_expr {e : CE} {env : List D} {d : D} (h : evalC G K e env = some d) : execC G K fuel (.expr e) env = some (.next env) := by rw [execC, h]; rfl
theorem s_true {c : CE} {t e : List CS} {env : List D} {o : Option Out} (h : evalC G K c env = some (.bool true)) (h' : execCs G K fuel t env = o) : execC G K fuel (.ite c t e) env = o := by rw [execC, h]; exact h'
theorem s_false {c : CE} {t e : List CS} {env : List D} {o : Option Out} (h : evalC G K c env = some (.bool false)) (h' : execCs G K fuel e env = o) : execC G K fuel (.ite c t e) env = o := by rw [execC, h]; exact h'
theorem s_for {xs : List Nat} {it : CE} {b : List CS} {env ds : List D} {o : Option Out} (h : evalIt G K it env = some ds) (h' : forC (fun d env => (bindTo xs d env).bind (execCs G K fuel b)) ds env = o) : execC G K fuel (.for xs it b) env = o := by rw [execC, h]; exact h'
theorem s_append {x : Nat} {e : CE} {env : List D} {v : D} {xs : List D} (h : evalC G K e env = some v) (hx : env[x]? = some (.list xs)) (hl : okLen (xs.length + 1) = true) : execC G K fuel (.append x e) env = some (.next (env.set x (.list (xs ++ [v])))) := by
  have : x < env.length := (List.getElem?_eq_some_iff.mp hx).1
  rw [execC, hx]
  simp [h, hl, setL, this]
end
theorem forC_inv {f : D → List D → Option Out} (I : Nat → List D → Prop) : ∀ {ds env : List D} (k : Nat), (∀ i d env, ds[i]? = some d → I (k + i) env → ∃ env', f d env = some (.next env') ∧ I (k + i + 1) env') → I k env →
    ∃ env', forC f ds env = some (.next env') ∧ I (k + ds.length) env'
  | [], env, k, _, h => ⟨env, rfl, h⟩
  | d :: ds, env, k, hs, h => by
    obtain ⟨env₁, e₁, h₁⟩ := hs 0 d env rfl h
    obtain ⟨env₂, e₂, h₂⟩ := forC_inv I (ds := ds) (k + 1) (fun i d' env' hd hi => by
      have := hs (i + 1) d' env' (by simpa using hd) (by rw [show k + (i + 1) = k + 1 + i by omega]; exact hi)
      rw [show k + (i + 1) = k + 1 + i by omega] at this
      exact this) h₁
    refine ⟨env₂, ?_, by rw [List.length_cons, show k + (ds.length + 1) = k + 1 + ds.length by omega]; exact h₂⟩
    rw [forC, e₁]; exact e₂
theorem mapO_map2 {α β γ : Type} {f : α → Option β} {i : γ → α} {g : γ → β} {xs : List γ} (h : ∀ x ∈ xs, f (i x) = some (g x)) : mapO f (xs.map i) = some (xs.map g) := by
  induction xs with
  | nil => rfl
  | cons x xs ih =>
    rw [List.map_cons, mapO, h x List.mem_cons_self, ih fun y hy => h y (List.mem_cons_of_mem _ hy)]; rfl
section
variable {G : List D} {K : Oracle} {fuel : Nat}
theorem e_comp {γ : Type} {elt it : CE} {env : List D} {i : γ → D} {xs : List γ} (g : γ → D) (h : evalIt G K it env = some (xs.map i)) (h' : ∀ x ∈ xs, evalC G K elt (env ++ [i x]) = some (g x)) :
    evalC G K (.comp elt 1 it) env = some (.list (xs.map g)) := by
  rw [evalC, h]
  show (mapO _ _).map _ = _
  rw [mapO_map2 (g := g) (fun x hx => by simpa [bindT] using h' x hx)]; rfl
theorem its_range1 {e : CE} {env : List D} {n : Nat} (h : evalC G K e env = some (.int n)) (hn : n ≤ 16777216) : evalIt G K (.range1 e) env = some ((List.range n).map fun (k : Nat) => D.int k) := by
  rw [evalIt, h]; simp [okLen, LIM, hn, upTo]
theorem e_comp_range {elt e : CE} {env : List D} {n : Nat} (g : Nat → D) (h : evalC G K e env = some (.int n)) (hn : n ≤ 16777216) (h' : ∀ k < n, evalC G K elt (env ++ [.int k]) = some (g k)) :
    evalC G K (.comp elt 1 (.range1 e)) env = some (.list ((List.range n).map g)) :=
  e_comp g (its_range1 h hn) fun k hk => h' k (List.mem_range.mp hk)
theorem e_call {f : Nat} {es : List CE} {env args : List D} {d : D} (h : evalCs G K es env = some args) (h' : K f args = some d) : evalC G K (.call f es) env = some d := by
  rw [evalC, h]; exact h'
theorem e_bin {op : BOp} {a b : CE} {env : List D} {x y z : D} (h : evalC G K a env = some x) (h' : evalC G K b env = some y) (h'' : binop op x y = some z) : evalC G K (.bin op a b) env = some z := by
  rw [evalC, h]; show (evalC G K b env).bind _ = _; rw [h']; exact h''
theorem e_cmp {op : COp} {a b : CE} {env : List D} {x y : D} {z : Bool} (h : evalC G K a env = some x) (h' : evalC G K b env = some y) (h'' : cmpop op x y = some z) : evalC G K (.cmp op a b) env = some (.bool z) := by
  rw [evalC, h]; show (evalC G K b env).bind _ = _; rw [h']; show (cmpop op x y).map _ = _; rw [h'']; rfl
theorem e_index {a b : CE} {env : List D} {x y z : D} (h : evalC G K a env = some x) (h' : evalC G K b env = some y) (h'' : indexOp x y = some z) : evalC G K (.index a b) env = some z := by
  rw [evalC, h]; show (evalC G K b env).bind _ = _; rw [h']; exact h''
theorem e_fn1 {f : Fn1} {a : CE} {env : List D} {x z : D} (h : evalC G K a env = some x) (h'' : fn1 f x = some z) : evalC G K (.fn1 f a) env = some z := by
  rw [evalC, h]; exact h''
theorem e_fn2 {f : Fn2} {a b : CE} {env : List D} {x y z : D} (h : evalC G K a env = some x) (h' : evalC G K b env = some y) (h'' : fn2 f x y = some z) : evalC G K (.fn2 f a b) env = some z := by
  rw [evalC, h]; show (evalC G K b env).bind _ = _; rw [h']; exact h''
theorem es_nil {env : List D} : evalCs G K [] env = some [] := by rw [evalCs]
theorem es_cons {e : CE} {r : List CE} {env ds : List D} {d : D} (h : evalC G K e env = some d) (h' : evalCs G K r env = some ds) : evalCs G K (e :: r) env = some (d :: ds) := by
  rw [evalCs, h]; show (evalCs G K r env).map _ = _; rw [h']; rfl
end
theorem eqs_refl_str (ws : List (List Nat)) : D.eqs (ws.map D.str) (ws.map D.str) = true := by
  induction ws with
  | nil => simp [D.eqs]
  | cons w ws ih => simp [D.eqs, D.eq, ih]
theorem strsOf_str (ws : List (List Nat)) : strsOf (ws.map D.str) = some ws := by
  induction ws with
  | nil => rfl
  | cons w ws ih => simp [strsOf, ih]
theorem fold_le (ws : List (List Nat)) (k m b : Nat) (h : ∀ s ∈ ws, s.length ≤ b) : ws.foldl (fun n t => n + t.length + k) m ≤ m + ws.length * (b + k) := by
  induction ws generalizing m with
  | nil => simp
  | cons w ws ih =>
    have h1 := ih (m + w.length + k) fun s hs => h s (List.mem_cons_of_mem _ hs)
    have h2 := h w List.mem_cons_self
    simp only [List.foldl_cons, List.length_cons]
    have : (ws.length + 1) * (b + k) = ws.length * (b + k) + (b + k) := by rw [Nat.add_mul, Nat.one_mul]
    omega
theorem joinL_nil (ws : List (List Nat)) : joinL [] ws = ws.flatten := by
  induction ws with
  | nil => rfl
  | cons v ws ih =>
    cases ws with
    | nil => simp [joinL]
    | cons u us => rw [joinL, ih]; simp; simp
theorem okLen_of {n : Nat} (h : n ≤ 16777216) : okLen n = true := by simp [okLen, LIM, h]
theorem join_val {sep : List Nat} {ws : List (List Nat)} (b : Nat) (h : ∀ s ∈ ws, s.length ≤ b) (hb : ws.length * (b + sep.length) ≤ 16777216) : fn2 .join (.str sep) (.list (ws.map .str)) = some (.str (joinL sep ws)) := by
  have hk := fold_le ws sep.length 0 b h
  rw [fn2, strsOf_str]
  show (if _ then _ else _) = _
  rw [okLen_of (by omega)]; rfl
theorem flat_one (w : List Nat) : (w.map fun c => [c]).flatten = w := by induction w <;> simp_all
noncomputable def cellAt (ns : List Int) (k : Nat) : Int := ns.getD k 0
noncomputable def okSign (c : Nat) : Bool := decide (33 ≤ c) && decide (c ≤ 126) && c != 37
noncomputable def okWord (s : List Nat) : Bool := decide (1 ≤ s.length) && decide (s.length ≤ 40) && s.all okSign
theorem okWord_len {s : List Nat} (h : okWord s = true) : 1 ≤ s.length ∧ s.length ≤ 40 := by
  simp only [okWord, Bool.and_eq_true, decide_eq_true_eq] at h; exact h.1
theorem okWord_all {s : List Nat} (h : okWord s = true) : ∀ c ∈ s, okSign c = true := by
  simp only [okWord, Bool.and_eq_true, List.all_eq_true] at h; exact h.2
/-! words by a cell -/
noncomputable def alph : List Nat := [33, 34, 35, 36, 38, 39, 40, 41, 42, 43, 44, 45, 46, 47, 48, 49, 50, 51, 52, 53, 54, 55, 56, 57, 58, 59, 60, 61, 62, 63, 64, 65, 66, 67, 68, 69, 70, 71, 72, 73, 74, 75, 76, 77, 78, 79, 80, 81, 82, 83, 84, 85, 86, 87, 88, 89, 90, 91, 92, 93, 94, 95, 96, 97, 98, 99, 100, 101, 102, 103, 104, 105, 106, 107, 108, 109, 110, 111, 112, 113, 114, 115, 116, 117, 118, 119, 120, 121, 122, 123, 124, 125, 126]
noncomputable def signBy (y : Int) : Nat := alph.getD (y.fmod 93).toNat 33
theorem fmod_rng (y m : Int) (h : 0 < m) : 0 ≤ y.fmod m ∧ y.fmod m < m := ⟨Int.fmod_nonneg_of_pos _ h, Int.fmod_lt_of_pos _ h⟩
theorem alph_ok : alph.all okSign = true := by decide
theorem signBy_ok (y : Int) : okSign (signBy y) = true := by
  obtain ⟨h1, h2⟩ := fmod_rng y 93 (by omega)
  have h3 : (y.fmod 93).toNat < alph.length := by show _ < 93; omega
  unfold signBy
  rw [List.getD_eq_getElem?_getD, List.getElem?_eq_getElem h3]
  exact List.all_eq_true.mp alph_ok _ (List.getElem_mem h3)
noncomputable def moreBy (x : Int) : Int := ((x + 5) * 48271).fmod 1000003
noncomputable def sizeBy (m : Int) : Int := if (m.fdiv 3).fmod 3 = 1 then 1 + (m.fdiv 9).fmod 40 else 1 + m.fmod 3
noncomputable def wordBy (x : Int) : List Nat := (List.range (sizeBy (moreBy x)).toNat).map fun (k : Nat) => signBy (((moreBy x + 11 * k + 1) * (moreBy x + 211 * k + 3)).fmod 1000033)
theorem sizeBy_rng (m : Int) : 1 ≤ sizeBy m ∧ sizeBy m ≤ 40 := by
  unfold sizeBy
  have := fmod_rng (m.fdiv 9) 40 (by omega)
  have := fmod_rng m 3 (by omega)
  split <;> omega
theorem wordBy_ok (x : Int) : okWord (wordBy x) = true := by
  have := sizeBy_rng (moreBy x)
  simp only [okWord, Bool.and_eq_true, decide_eq_true_eq, List.all_eq_true, wordBy, List.length_map, List.length_range]
  refine ⟨⟨by omega, by omega⟩, ?_⟩
  intro c hc
  obtain ⟨k, _, rfl⟩ := List.mem_map.mp hc
  exact signBy_ok _
theorem moreBy_rng (x : Int) : 0 ≤ moreBy x ∧ moreBy x < 1000003 := fmod_rng _ _ (by omega)
theorem nat_of_mod (y m : Int) (h : 0 < m) : ((y.fmod m).toNat : Int) = y.fmod m := by have := fmod_rng y m h; omega
/-- one of a written list, by a number -/
theorem pick {xs : List D} (y m : Int) (h : 0 < m) (hm : m = xs.length) : indexOp (.list xs) (.int (y.fmod m)) = some (xs.getD (y.fmod m).toNat .none) := by
  obtain ⟨h1, h2⟩ := fmod_rng y m h
  subst hm
  have h3 : (y.fmod xs.length).toNat < xs.length := by omega
  simp [indexOp, idx, h1, h2, List.getD_eq_getElem?_getD, List.getElem?_eq_getElem h3]
section
variable {G : List D} {K : Oracle} {fuel : Nat}
theorem s_setItem {x : Nat} {i e : CE} {env : List D} {v : D} {xs : List D} {k : Int} {p : Nat} (h : evalC G K e env = some v) (hx : env[x]? = some (.list xs)) (hi : evalC G K i env = some (.int k)) (hp : idx k xs.length = some p) :
    execC G K fuel (.setItem x i e) env = some (.next (env.set x (.list (xs.set p v)))) := by
  have : x < env.length := (List.getElem?_eq_some_iff.mp hx).1
  rw [execC, h]
  show (env[x]?).bind _ = _
  rw [hx]
  show (evalC G K i env).bind _ = _
  rw [hi]
  show (setAt (.list xs) (.int k) v).bind _ = _
  rw [setAt, hp]
  show (setL x _ env).map _ = _
  rw [setL, if_pos this]; rfl
end
theorem okWord_of {s : List Nat} (h1 : 1 ≤ s.length) (h2 : s.length ≤ 40) (h3 : ∀ c ∈ s, okSign c = true) : okWord s = true := by
  simp [okWord, h1, h2, List.all_eq_true]; exact h3
theorem rep_three {α : Type} (xs : List α) : rep 3 xs = xs ++ (xs ++ xs) := by simp [rep, List.replicate]
noncomputable def kK : List Nat := [107, 101, 101, 112]
noncomputable def kC : List Nat := [99, 117, 116]
noncomputable def kP : List Nat := [112, 117, 116]
noncomputable abbrev Stp := List Nat × List (List Nat)
noncomputable def stepD (p : Stp) : D := .tuple [.str p.1, .list (p.2.map .str)]
noncomputable def okStep (p : Stp) : Prop := (p.1 = kK ∨ p.1 = kC ∨ p.1 = kP) ∧ (∀ s ∈ p.2, okWord s = true)
noncomputable def total (ps : List Stp) : Nat := (ps.map (·.2.length)).sum
noncomputable def sideW (k : List Nat) (ps : List Stp) : List (List Nat) := (ps.filter fun p => p.1 == kK || p.1 == k).flatMap (·.2)
theorem sideW_len (k : List Nat) (ps : List Stp) : (sideW k ps).length ≤ total ps := by
  induction ps with
  | nil => simp [sideW]
  | cons p ps ih =>
    simp only [sideW, total, List.filter_cons, List.map_cons, List.sum_cons] at ih ⊢
    split
    · simp only [List.flatMap_cons, List.length_append]; omega
    · omega
theorem sideW_ok {k : List Nat} {ps : List Stp} (h : ∀ p ∈ ps, okStep p) : ∀ s ∈ sideW k ps, okWord s = true := by
  intro s hs
  simp only [sideW, List.mem_flatMap, List.mem_filter] at hs
  obtain ⟨p, ⟨hp, _⟩, hs⟩ := hs
  exact (h p hp).2 s hs
theorem total_le {ps : List Stp} {b : Nat} (h : ∀ p ∈ ps, p.2.length ≤ b) : total ps ≤ ps.length * b := by
  induction ps with
  | nil => simp [total]
  | cons p ps ih =>
    have h1 := ih fun p hp => h p (List.mem_cons_of_mem _ hp)
    have h2 := h p List.mem_cons_self
    simp only [total, List.map_cons, List.sum_cons, List.length_cons, Nat.add_mul] at h1 ⊢
    omega
theorem total_take (ps : List Stp) (k : Nat) : total (ps.take k) ≤ total ps := by
  induction ps generalizing k with
  | nil => simp
  | cons p ps ih =>
    cases k with
    | zero => simp [total]
    | succ k => have := ih k; simp only [total, List.take_succ_cons, List.map_cons, List.sum_cons] at this ⊢; omega
theorem total_append (a b : List Stp) : total (a ++ b) = total a + total b := by simp [total]
theorem cut_map {α β : Type} (f : α → β) (xs : List α) (a b : Nat) : cut (xs.map f) a b = (cut xs a b).map f := by simp [cut]
theorem cut_len {α : Type} (xs : List α) (a b : Nat) : (cut xs a b).length ≤ b - a := by simp [cut]; omega
theorem mem_cut {α : Type} {xs : List α} {a b : Nat} {x : α} (h : x ∈ cut xs a b) : x ∈ xs := List.mem_of_mem_drop (List.mem_of_mem_take h)
theorem slice_list {xs : List D} (a b : Nat) : sliceOp (.list xs) (.int a) (.int b) = some (.list (cut xs (min a xs.length) (min b xs.length))) := by
  have h1 : ¬ (a : Int) < 0 := by omega
  have h2 : ¬ (b : Int) < 0 := by omega
  simp [sliceOp, bnd, clampI, h1, h2]
theorem slice_to {xs : List D} (b : Nat) : sliceOp (.list xs) .none (.int b) = some (.list (xs.take b)) := by
  have h2 : ¬ (b : Int) < 0 := by omega
  simp [sliceOp, bnd, clampI, h2, cut]
section
variable {G : List D} {K : Oracle} {fuel : Nat}
theorem e_slice {a l h : CE} {env : List D} {x y z v : D} (h1 : evalC G K a env = some x) (h2 : evalC G K l env = some y) (h3 : evalC G K h env = some z) (h4 : sliceOp x y z = some v) : evalC G K (.slice a l h) env = some v := by
  rw [evalC, h1]; show (evalC G K l env).bind _ = _; rw [h2]; show (evalC G K h env).bind _ = _; rw [h3]; exact h4
theorem it_slice {a l h : CE} {env : List D} {x y z v : D} {ds : List D} (h1 : evalC G K a env = some x) (h2 : evalC G K l env = some y) (h3 : evalC G K h env = some z) (h4 : sliceOp x y z = some v) (h5 : itemsOf v = some ds) : evalIt G K (.slice a l h) env = some ds := by
  rw [evalIt, h1]; show ((evalC G K l env).bind _).bind _ = _; rw [h2]; show ((evalC G K h env).bind _).bind _ = _; rw [h3]; show (sliceOp x y z).bind _ = _; rw [h4]; exact h5
theorem e_var {i : Nat} {env : List D} {d : D} (h : env[i]? = some d) : evalC G K (.var i) env = some d := by rw [evalC]; exact h
theorem e_const {d : D} {env : List D} : evalC G K (.const d) env = some d := by rw [evalC]
theorem e_tuple {es : List CE} {env ds : List D} (h : evalCs G K es env = some ds) : evalC G K (.tuple es) env = some (.tuple ds) := by rw [evalC, h]; rfl
theorem e_list {es : List CE} {env ds : List D} (h : evalCs G K es env = some ds) : evalC G K (.list es) env = some (.list ds) := by rw [evalC, h]; rfl
theorem it_var {i : Nat} {env ds : List D} {d : D} (h : env[i]? = some d) (h' : itemsOf d = some ds) : evalIt G K (.var i) env = some ds := by rw [evalIt, h]; exact h'
end
theorem add_list {s t : List D} (h : s.length + t.length ≤ 16777216) : binop .add (.list s) (.list t) = some (.list (s ++ t)) := by rw [binop, okLen_of h]; rfl
/-- a list of results, one by one -/
theorem mapO_ex {α β : Type} {f : α → Option D} {R : β → Prop} (g : β → D) : ∀ {xs : List α}, (∀ x ∈ xs, ∃ b, R b ∧ f x = some (g b)) → ∃ bs : List β, bs.length = xs.length ∧ (∀ b ∈ bs, R b) ∧ mapO f xs = some (bs.map g)
  | [], _ => ⟨[], rfl, (fun _ h => by cases h), rfl⟩
  | x :: xs, h => by
    obtain ⟨b, hb, e⟩ := h x List.mem_cons_self
    obtain ⟨bs, h1, h2, h3⟩ := mapO_ex g fun y hy => h y (List.mem_cons_of_mem _ hy)
    refine ⟨b :: bs, by simp [h1], fun c hc => ?_, by rw [mapO, e]; show (mapO f xs).map _ = _; rw [h3]; rfl⟩
    rcases List.mem_cons.mp hc with rfl | hc
    · exact hb
    · exact h2 c hc
theorem e_comp_ex {G : List D} {K : Oracle} {β : Type} {elt it : CE} {env xs : List D} {R : β → Prop} (g : β → D) (h : evalIt G K it env = some xs) (h' : ∀ x ∈ xs, ∃ b, R b ∧ evalC G K elt (env ++ [x]) = some (g b)) :
    ∃ bs : List β, bs.length = xs.length ∧ (∀ b ∈ bs, R b) ∧ evalC G K (.comp elt 1 it) env = some (.list (bs.map g)) := by
  obtain ⟨bs, h1, h2, h3⟩ := mapO_ex (f := fun d => (bindT 1 d).bind fun ts => evalC G K elt (env ++ ts)) g (by simpa [bindT] using h')
  refine ⟨bs, h1, h2, ?_⟩
  rw [evalC, h]; show (mapO _ _).map _ = _
  rw [h3]; rfl
/-! the table of costs -/
noncomputable def costF : List (List Nat) → List (List Nat) → Int
  | [], ns => ns.length
  | o :: os, [] => (o :: os).length
  | o :: os, n :: ns => if o = n then costF os ns else 1 + min (costF os (n :: ns)) (costF (o :: os) ns)
termination_by os ns => os.length + ns.length
theorem costF_nil (os : List (List Nat)) : costF os [] = os.length := by cases os <;> simp [costF]
theorem costF_step {old new : List (List Nat)} {i k : Nat} (hi : i < old.length) (hk : k < new.length) : costF (old.drop i) (new.drop k) =
    if old[i] = new[k] then costF (old.drop (i + 1)) (new.drop (k + 1)) else 1 + min (costF (old.drop (i + 1)) (new.drop k)) (costF (old.drop i) (new.drop (k + 1))) := by
  rw [List.drop_eq_getElem_cons hi, List.drop_eq_getElem_cons hk, costF]
noncomputable def tblRow (old new : List (List Nat)) (i : Nat) : List D := (List.range (new.length + 1)).map fun k => D.int (costF (old.drop i) (new.drop k))
noncomputable def tbl (old new : List (List Nat)) : List D := (List.range (old.length + 1)).map fun i => D.list (tblRow old new i)
theorem rev_range {α : Type} (g : Nat → α) (m : Nat) : ((List.range (m + 1)).map fun t => g (m - t)).reverse = (List.range (m + 1)).map g := by
  apply List.ext_getElem
  · simp
  · intro i h1 h2
    simp only [List.length_map, List.length_range] at h2
    simp only [List.getElem_reverse, List.getElem_map, List.getElem_range, List.length_map, List.length_range]
    congr 1; omega
theorem idx_nat {xs : List D} {k : Nat} {d : D} (h : xs[k]? = some d) : indexOp (.list xs) (.int k) = some d := by
  have := (List.getElem?_eq_some_iff.mp h).1
  have h1 : (k : Int) < xs.length := by omega
  rw [indexOp, idx, if_pos (by omega), if_pos h1]
  exact h
theorem idx_last {α : Type} (g : α → D) {xs : List α} {x : α} : indexOp (.list ((xs ++ [x]).map g)) (.int (-1)) = some (g x) := by
  have h1 : ¬ (0 : Int) ≤ -1 := by omega
  rw [indexOp, idx, if_neg h1, if_pos (by simp; omega)]
  show (List.map g (xs ++ [x]))[_]? = _
  have : ((-1 : Int) + (List.map g (xs ++ [x])).length).toNat = xs.length := by simp; omega
  rw [this]; simp
theorem idx_last_range (g : Nat → D) (j : Nat) : indexOp (.list ((List.range (j + 1)).map g)) (.int (-1)) = some (g j) := by
  rw [List.range_succ]; exact idx_last g
section
variable {G : List D} {K : Oracle} {fuel : Nat}
theorem it_rangeDown {e : CE} {env : List D} {n : Nat} (h : evalC G K e env = some (.int ((n : Int) - 1))) (hn : n ≤ 16777214) : evalIt G K (.rangeDown e) env = some ((List.range n).map fun (j : Nat) => D.int ((n - 1 - j : Nat) : Int)) := by
  rw [evalIt, h]
  show (if _ then _ else _) = _
  rw [okLen_of (by omega)]
  show some _ = some _
  congr 1
  unfold downFrom
  rw [show ((n : Int) - 1 + 1).toNat = n by omega]
  refine List.map_congr_left fun k hk => ?_
  have := List.mem_range.mp hk
  congr 1; omega
theorem s_reverse {x : Nat} {env : List D} {xs : List D} (hx : env[x]? = some (.list xs)) : execC G K fuel (.reverse x) env = some (.next (env.set x (.list xs.reverse))) := by
  have : x < env.length := (List.getElem?_eq_some_iff.mp hx).1
  rw [execC, hx]
  show (setL x _ env).map _ = _
  rw [setL, if_pos this]; rfl
theorem e_neg1 {env : List D} : evalC G K (.neg (.const (.int 1))) env = some (.int (-1)) := by rw [evalC, evalC]; rfl
end
theorem min_int (i j : Int) : fn2 .min (.int i) (.int j) = some (.int (min i j)) := by
  rw [fn2]; congr 2; split <;> omega
theorem cmp_eq_str (s t : List Nat) : cmpop .eq (.str s) (.str t) = some (decide (s = t)) := by
  simp only [cmpop, shal, Bool.and_self, if_true, D.eq]
  congr 1
  by_cases h : s = t
  · subst h; simp
  · simp [h]
section
variable {G : List D} {K : Oracle} {fuel : Nat} {e e' : CE} {r : List CE} {env : List D} {o : Option D} {b : Bool}
theorem or_f (h : evalC G K e env = some (.bool false)) (h' : evalC G K (.or (e' :: r)) env = o) : evalC G K (.or (e :: e' :: r)) env = o := by
  rw [evalC] at h' ⊢; rw [evalOr, h]; exact h'; simp
theorem or_1 (h : evalC G K e env = o) : evalC G K (.or [e]) env = o := by rw [evalC, evalOr]; exact h
theorem and_t (h : evalC G K e env = some (.bool true)) (h' : evalC G K (.and (e' :: r)) env = o) : evalC G K (.and (e :: e' :: r)) env = o := by
  rw [evalC] at h' ⊢; rw [evalAnd, h]; exact h'; simp
theorem and_1 (h : evalC G K e env = o) : evalC G K (.and [e]) env = o := by rw [evalC, evalAnd]; exact h
theorem e_not (h : evalC G K e env = some (.bool b)) : evalC G K (.not e) env = some (.bool (!b)) := by rw [evalC, h]; rfl
end
theorem cmp_eq_int (i j : Int) : cmpop .eq (.int i) (.int j) = some (decide (i = j)) := by
  simp only [cmpop, shal, Bool.and_self, if_true, D.eq]
  congr 1
theorem cmp_ne_int (i j : Int) : cmpop .ne (.int i) (.int j) = some (!decide (i = j)) := by
  simp only [cmpop, shal, Bool.and_self, if_true, D.eq]
  congr 1
theorem eq_words (ws : List (List Nat)) : cmpop .eq (.list (ws.map .str)) (.list (ws.map .str)) = some true := by
  have h3 : (ws.map D.str).all (shal 7) = true := by simp [shal]
  simp [cmpop, shal, h3, D.eq, eqs_refl_str]
theorem ne_words (ws : List (List Nat)) : cmpop .ne (.list (ws.map .str)) (.list (ws.map .str)) = some false := by
  have h3 : (ws.map D.str).all (shal 7) = true := by simp [shal]
  simp [cmpop, shal, h3, D.eq, eqs_refl_str]
end Mine

namespace Mine
noncomputable def f0 : CF :=
  { np := 1, ns := 1, body := [
    .ret (.and [(.cmp2 .le .le (.const (.int 33)) (.fn1 .ord (.var 0)) (.const (.int 126))), (.cmp .ne (.fn1 .ord (.var 0)) (.const (.int 37)))])] }
noncomputable def f1_b0 : List CS := [
  .ite (.not (.call 0 [(.var 1)])) [
    .ret (.const (.bool false))] []]
noncomputable def f1 : CF :=
  { np := 1, ns := 2, body := [
    .ite (.or [(.not (.isinst (.var 0) .str)), (.not (.cmp2 .le .le (.const (.int 1)) (.fn1 .len (.var 0)) (.glob 0)))]) [
      .ret (.const (.bool false))] [],
    .for [1] (.var 0) f1_b0,
    .ret (.const (.bool true))] }
noncomputable def f2_b0 : List CS := [
  .ite (.not (.call 1 [(.var 1)])) [
    .raise 1] []]
noncomputable def f2 : CF :=
  { np := 1, ns := 2, body := [
    .ite (.not (.isinst (.var 0) .list)) [
      .raise 1] [],
    .for [1] (.var 0) f2_b0,
    .ite (.cmp .gt (.fn1 .len (.var 0)) (.glob 1)) [
      .raise 2] []] }
noncomputable def f3_e0 : CE := (.bin .sub (.fn1 .len (.var 1)) (.var 7))
noncomputable def f3_b0 : List CS := [
  .ite (.cmp .eq (.index (.var 0) (.var 3)) (.index (.var 1) (.var 6))) [
    .append 5 (.index (.var 4) (.bin .add (.var 6) (.const (.int 1))))] [
    .append 5 (.bin .add (.const (.int 1)) (.fn2 .min (.index (.var 4) (.var 6)) (.index (.var 5) (.neg (.const (.int 1))))))]]
noncomputable def f3_b1 : List CS := [
  .assign 4 (.index (.var 2) (.neg (.const (.int 1)))),
  .assign 5 (.list [(.bin .sub (.fn1 .len (.var 0)) (.var 3))]),
  .for [6] (.rangeDown (.bin .sub (.fn1 .len (.var 1)) (.const (.int 1)))) f3_b0,
  .reverse 5,
  .append 2 (.var 5)]
noncomputable def f3 : CF :=
  { np := 2, ns := 7, body := [
    .assign 2 (.list [(.comp f3_e0 1 (.range1 (.bin .add (.fn1 .len (.var 1)) (.const (.int 1)))))]),
    .for [3] (.rangeDown (.bin .sub (.fn1 .len (.var 0)) (.const (.int 1)))) f3_b1,
    .reverse 2,
    .ret (.var 2)] }
noncomputable def f4 : CF :=
  { np := 2, ns := 2, body := [
    .expr (.call 2 [(.var 0)]),
    .expr (.call 2 [(.var 1)]),
    .ret (.call 3 [(.var 0), (.var 1)])] }
noncomputable def f5 : CF :=
  { np := 2, ns := 2, body := [
    .ret (.index (.index (.call 4 [(.var 0), (.var 1)]) (.const (.int 0))) (.const (.int 0)))] }
noncomputable def f6 : CF :=
  { np := 2, ns := 2, body := [
    .ite (.cmp .lt (.var 1) (.fn1 .len (.var 0))) [
      .ret (.index (.var 0) (.var 1))] [],
    .ret (.const (.int 0))] }
noncomputable def f7 : CF :=
  { np := 1, ns := 2, body := [
    .assign 1 (.const (.str [33, 34, 35, 36, 38, 39, 40, 41, 42, 43, 44, 45, 46, 47, 48, 49, 50, 51, 52, 53, 54, 55, 56, 57, 58, 59, 60, 61, 62, 63, 64, 65, 66, 67, 68, 69, 70, 71, 72, 73, 74, 75, 76, 77, 78, 79, 80, 81, 82, 83, 84, 85, 86, 87, 88, 89, 90, 91, 92, 93, 94, 95, 96])),
    .assign 1 (.bin .add (.var 1) (.const (.str [97, 98, 99, 100, 101, 102, 103, 104, 105, 106, 107, 108, 109, 110, 111, 112, 113, 114, 115, 116, 117, 118, 119, 120, 121, 122, 123, 124, 125, 126]))),
    .ret (.index (.var 1) (.bin .mod (.var 0) (.const (.int 93))))] }
noncomputable def f8_e0 : CE := (.call 7 [(.bin .mod (.bin .mul (.bin .add (.bin .add (.var 1) (.bin .mul (.const (.int 11)) (.var 3))) (.const (.int 1))) (.bin .add (.bin .add (.var 1) (.bin .mul (.const (.int 211)) (.var 3))) (.const (.int 3)))) (.const (.int 1000033)))])
noncomputable def f8 : CF :=
  { np := 1, ns := 3, body := [
    .assign 1 (.bin .mod (.bin .mul (.bin .add (.var 0) (.const (.int 5))) (.const (.int 48271))) (.const (.int 1000003))),
    .assign 2 (.bin .add (.const (.int 1)) (.bin .mod (.var 1) (.const (.int 3)))),
    .ite (.cmp .eq (.bin .mod (.bin .div (.var 1) (.const (.int 3))) (.const (.int 3))) (.const (.int 1))) [
      .assign 2 (.bin .add (.const (.int 1)) (.bin .mod (.bin .div (.var 1) (.const (.int 9))) (.const (.int 40))))] [],
    .ret (.fn2 .join (.const (.str [])) (.comp f8_e0 1 (.range1 (.var 2))))] }
noncomputable def f9 : CF :=
  { np := 2, ns := 3, body := [
    .assign 2 (.bin .mod (.var 1) (.fn1 .len (.var 0))),
    .ite (.cmp .eq (.bin .mod (.bin .div (.var 1) (.const (.int 41))) (.const (.int 3))) (.const (.int 0))) [
      .ret (.fn2 .join (.const (.str [])) (.fn1 .listRev (.var 0)))] [],
    .ite (.and [(.cmp .eq (.bin .mod (.bin .div (.var 1) (.const (.int 41))) (.const (.int 3))) (.const (.int 1))), (.cmp .gt (.fn1 .len (.var 0)) (.const (.int 1)))]) [
      .ret (.bin .add (.slice (.var 0) (.const .none) (.var 2)) (.slice (.var 0) (.bin .add (.var 2) (.const (.int 1))) (.const .none)))] [],
    .ret (.bin .add (.bin .add (.slice (.var 0) (.const .none) (.var 2)) (.call 7 [(.bin .div (.var 1) (.const (.int 123)))])) (.slice (.var 0) (.bin .add (.var 2) (.const (.int 1))) (.const .none)))] }
noncomputable def f10_e0 : CE := (.call 8 [(.bin .add (.call 6 [(.var 0), (.var 2)]) (.bin .mul (.const (.int 97)) (.var 2)))])
noncomputable def f10_e1 : CE := (.call 8 [(.bin .add (.bin .add (.call 6 [(.var 0), (.bin .mod (.var 2) (.const (.int 3)))]) (.bin .mul (.const (.int 97)) (.var 2))) (.const (.int 13)))])
noncomputable def f10 : CF :=
  { np := 1, ns := 2, body := [
    .assign 1 (.comp f10_e0 1 (.range1 (.const (.int 4)))),
    .ite (.cmp .eq (.bin .mod (.call 6 [(.var 0), (.const (.int 0))]) (.const (.int 2))) (.const (.int 1))) [
      .setItem 1 (.const (.int 1)) (.call 9 [(.index (.var 1) (.const (.int 0))), (.call 6 [(.var 0), (.const (.int 1))])]),
      .setItem 1 (.const (.int 3)) (.call 9 [(.index (.var 1) (.const (.int 2))), (.call 6 [(.var 0), (.const (.int 2))])])] [],
    .ite (.cmp .eq (.bin .mod (.call 6 [(.var 0), (.const (.int 3))]) (.const (.int 4))) (.const (.int 1))) [
      .ret (.bin .add (.var 1) (.comp f10_e1 1 (.range1 (.const (.int 8)))))] [],
    .ret (.bin .mul (.var 1) (.const (.int 3)))] }
noncomputable def f11_e0 : CE := (.index (.var 0) (.bin .mod (.bin .add (.bin .div (.var 1) (.const (.int 6))) (.var 4)) (.const (.int 12))))
noncomputable def f11 : CF :=
  { np := 2, ns := 4, body := [
    .assign 2 (.index (.list [(.const (.str [107, 101, 101, 112])), (.const (.str [107, 101, 101, 112])), (.const (.str [99, 117, 116])), (.const (.str [112, 117, 116])), (.const (.str [99, 117, 116])), (.const (.str [112, 117, 116]))]) (.bin .mod (.var 1) (.const (.int 6)))),
    .assign 3 (.const (.int 1)),
    .ite (.cmp .gt (.bin .mod (.var 1) (.const (.int 6))) (.const (.int 3))) [
      .assign 3 (.index (.list [(.const (.int 2)), (.const (.int 3)), (.const (.int 2)), (.const (.int 3)), (.const (.int 7))]) (.bin .mod (.bin .mod (.bin .mul (.var 1) (.const (.int 48271))) (.const (.int 1009))) (.const (.int 5))))] [],
    .ret (.tuple [(.var 2), (.comp f11_e0 1 (.range1 (.var 3)))])] }
noncomputable def f12_e0 : CE := (.call 11 [(.var 2), (.var 5)])
noncomputable def f12 : CF :=
  { np := 2, ns := 5, body := [
    .assign 2 (.call 10 [(.var 0)]),
    .assign 3 (.comp f12_e0 1 (.slice (.var 0) (.const (.int 4)) (.bin .add (.const (.int 4)) (.var 1)))),
    .ite (.cmp .eq (.bin .mod (.bin .div (.call 6 [(.var 0), (.const (.int 3))]) (.const (.int 4))) (.const (.int 8))) (.const (.int 3))) [
      .assign 4 (.list [(.tuple [(.const (.str [107, 101, 101, 112])), (.var 2)]), (.tuple [(.const (.str [99, 117, 116])), (.slice (.var 2) (.const .none) (.const (.int 2)))]), (.tuple [(.const (.str [107, 101, 101, 112])), (.slice (.var 2) (.const (.int 2)) (.const (.int 6)))])]),
      .ret (.bin .add (.var 4) (.slice (.var 3) (.const .none) (.bin .div (.var 1) (.const (.int 2)))))] [],
    .ret (.var 3)] }
noncomputable def f13_b0 : List CS := [
  .ite (.or [(.cmp .eq (.index (.var 3) (.const (.int 0))) (.const (.str [107, 101, 101, 112]))), (.cmp .eq (.index (.var 3) (.const (.int 0))) (.var 1))]) [
    .assign 2 (.bin .add (.var 2) (.index (.var 3) (.const (.int 1))))] []]
noncomputable def f13 : CF :=
  { np := 2, ns := 4, body := [
    .assign 2 (.list []),
    .for [3] (.var 0) f13_b0,
    .ret (.var 2)] }
noncomputable def f14 : CF :=
  { np := 1, ns := 1, body := [
    .ret (.and [(.isinst (.var 0) .int), (.not (.isinst (.var 0) .bool))])] }
noncomputable def f15_e0 : CE := (.call 14 [(.var 4)])
noncomputable def f15_b0 : List CS := [
  .ite (.or [(.not (.isinst (.var 3) .list)), (.cmp .ne (.fn1 .len (.var 3)) (.var 2)), (.not (.fn1 .all (.comp f15_e0 1 (.var 3))))]) [
    .ret (.const (.bool false))] []]
noncomputable def f15 : CF :=
  { np := 3, ns := 4, body := [
    .ite (.or [(.not (.isinst (.var 0) .list)), (.cmp .ne (.fn1 .len (.var 0)) (.var 1))]) [
      .ret (.const (.bool false))] [],
    .for [3] (.var 0) f15_b0,
    .ret (.const (.bool true))] }
noncomputable def f16 : CF :=
  { np := 5, ns := 5, body := [
    .ite (.or [(.cmp .eq (.var 3) (.fn1 .len (.var 1))), (.cmp .eq (.var 4) (.fn1 .len (.var 2)))]) [
      .ret (.bin .sub (.bin .add (.bin .sub (.fn1 .len (.var 1)) (.var 3)) (.fn1 .len (.var 2))) (.var 4))] [],
    .ite (.cmp .eq (.index (.var 1) (.var 3)) (.index (.var 2) (.var 4))) [
      .ret (.index (.index (.var 0) (.bin .add (.var 3) (.const (.int 1)))) (.bin .add (.var 4) (.const (.int 1))))] [],
    .ret (.bin .add (.const (.int 1)) (.fn2 .min (.index (.index (.var 0) (.bin .add (.var 3) (.const (.int 1)))) (.var 4)) (.index (.index (.var 0) (.var 3)) (.bin .add (.var 4) (.const (.int 1))))))] }
noncomputable def f17_b0 : List CS := [
  .ite (.cmp .ne (.index (.index (.var 5) (.var 6)) (.var 7)) (.call 16 [(.var 5), (.var 2), (.var 3), (.var 6), (.var 7)])) [
    .ret (.const (.bool false))] []]
noncomputable def f17_b1 : List CS := [
  .for [7] (.range1 (.bin .add (.fn1 .len (.var 3)) (.const (.int 1)))) f17_b0]
noncomputable def f17 : CF :=
  { np := 1, ns := 9, body := [
    .assign 1 (.call 12 [(.var 0), (.const (.int 10))]),
    .assign 2 (.call 13 [(.var 1), (.const (.str [99, 117, 116]))]),
    .assign 3 (.call 13 [(.var 1), (.const (.str [112, 117, 116]))]),
    .assign 4 (.list [(.fn1 .list (.var 2)), (.fn1 .list (.var 3))]),
    .assign 5 (.call 4 [(.index (.var 4) (.const (.int 0))), (.index (.var 4) (.const (.int 1)))]),
    .ite (.or [(.cmp .ne (.index (.var 4) (.const (.int 0))) (.var 2)), (.cmp .ne (.index (.var 4) (.const (.int 1))) (.var 3)), (.not (.call 15 [(.var 5), (.bin .add (.fn1 .len (.var 2)) (.const (.int 1))), (.bin .add (.fn1 .len (.var 3)) (.const (.int 1)))]))]) [
      .ret (.const (.bool false))] [],
    .for [6] (.range1 (.bin .add (.fn1 .len (.var 2)) (.const (.int 1)))) f17_b1,
    .assign 8 (.call 5 [(.index (.var 4) (.const (.int 0))), (.index (.var 4) (.const (.int 1)))]),
    .ret (.and [(.call 14 [(.var 8)]), (.cmp .eq (.var 8) (.index (.index (.var 5) (.const (.int 0))) (.const (.int 0)))), (.cmp .eq (.index (.var 4) (.const (.int 0))) (.var 2)), (.cmp .eq (.index (.var 4) (.const (.int 1))) (.var 3))])] }
noncomputable def globs : List D := [(.int 40), (.int 120)]
noncomputable def P : Prog := { globs := globs, funs := [f0, f1, f2, f3, f4, f5, f6, f7, f8, f9, f10, f11, f12, f13, f14, f15, f16, f17] }
theorem t_cell_at {fuel n : Nat} (ns : List Int) (k : Nat) : callC P fuel (n + 1) 6 [.list (ns.map .int), .int k] = some (.int (cellAt ns k)) := by
  rw [call_f (F := f6) rfl]
  simp only [runF, f6, List.length_cons, List.length_nil, execCs, execC, evalC, cmpop, fn1]
  by_cases h : k < ns.length
  · simp [h, asB, indexOp, idx, cellAt, execC, execCs, evalC]
  · simp [h, asB, cellAt, execC, execCs, evalC]
theorem t_is_sign {fuel n : Nat} (c : Nat) (h : okSign c = true) : callC P fuel (n + 1) 0 [.str [c]] = some (.bool true) := by
  rw [call_f (F := f0) rfl]
  simp only [okSign, Bool.and_eq_true, decide_eq_true_eq, bne_iff_ne, ne_eq] at h
  obtain ⟨⟨h1, h2⟩, h3⟩ := h
  have i1 : (33 : Int) ≤ c := by omega
  have i2 : (c : Int) ≤ 126 := by omega
  have i3 : ¬ (c : Int) = 37 := by omega
  simp only [runF, f0, List.length_cons, List.length_nil, execCs, execC, evalC, evalAnd, cmpop, fn1]
  simp [i1, i2, asB, shal, D.eq, i3]
theorem t_is_word {fuel n : Nat} (s : List Nat) (h : okWord s = true) : callC P fuel (n + 2) 1 [.str s] = some (.bool true) := by
  obtain ⟨h1, h2⟩ := okWord_len h
  have h3 := okWord_all h
  rw [call_f (F := f1) rfl]
  refine run_ret rfl ?_
  show execCs _ _ _ f1.body [.str s, .none] = _
  have g0 : P.globs[0]? = some (.int 40) := rfl
  have i1 : (1 : Int) ≤ s.length := by omega
  have i2 : (s.length : Int) ≤ 40 := by omega
  refine seq_next (s_false (by simp [evalC, evalOr, cmpop, fn1, hasTy, asB, g0, i1, i2]) seq_nil) ?_
  obtain ⟨env', he, d, rfl⟩ := forC_inv (f := fun d env => (bindTo [1] d env).bind (execCs P.globs (callC P fuel (n + 1)) fuel f1_b0)) (I := fun _ env => ∃ d, env = [.str s, d]) (ds := s.map fun c => .str [c]) (env := [.str s, .none]) 0 (fun i d env hd ⟨d', he⟩ => by
    subst he
    obtain ⟨c, hc, rfl⟩ := List.mem_map.mp (List.mem_of_getElem? hd)
    refine ⟨[.str s, .str [c]], ?_, _, rfl⟩
    simp [bindTo, setL, f1_b0, execCs, execC, evalC, evalCs, t_is_sign c (h3 c hc), asB]) ⟨_, rfl⟩
  refine seq_next (s_for (ds := s.map fun c => .str [c]) ?_ he) (seq_ret (s_ret rfl))
  simp [evalIt, itemsOf]
theorem t_sign_by {fuel n : Nat} (y : Int) : callC P fuel (n + 1) 7 [.int y] = some (.str [signBy y]) := by
  rw [call_f (F := f7) rfl]
  refine run_ret rfl ?_
  show execCs _ _ _ f7.body [.int y, .none] = _
  refine seq_next (s_assign (d := .str [33, 34, 35, 36, 38, 39, 40, 41, 42, 43, 44, 45, 46, 47, 48, 49, 50, 51, 52, 53, 54, 55, 56, 57, 58, 59, 60, 61, 62, 63, 64, 65, 66, 67, 68, 69, 70, 71, 72, 73, 74, 75, 76, 77, 78, 79, 80, 81, 82, 83, 84, 85, 86, 87, 88, 89, 90, 91, 92, 93, 94, 95, 96]) (by rw [evalC]) (by simp)) ?_
  refine seq_next (s_assign (d := .str alph) (by simp [evalC, binop, okLen, LIM, alph]) (by simp)) ?_
  refine seq_ret (s_ret ?_)
  obtain ⟨h1, h2⟩ := fmod_rng y 93 (by omega)
  have h3 : (y.fmod 93).toNat < alph.length := by show _ < 93; omega
  have h4 : y.fmod 93 < (alph.length : Int) := by show _ < (93 : Int); omega
  simp [evalC, binop, indexOp, idx, h1, h4, signBy, List.getD_eq_getElem?_getD, List.getElem?_eq_getElem h3]
theorem t_word_by {fuel n : Nat} (x : Int) : callC P fuel (n + 2) 8 [.int x] = some (.str (wordBy x)) := by
  rw [call_f (F := f8) rfl]
  refine run_ret rfl ?_
  show execCs _ _ _ f8.body [.int x, .none, .none] = _
  refine seq_next (s_assign (d := .int (moreBy x)) (by simp [evalC, binop, smallI, moreBy]) (by simp)) ?_
  refine seq_next (s_assign (d := .int (1 + (moreBy x).fmod 3)) (by simp [evalC, binop, smallI]) (by simp)) ?_
  refine seq_next (env' := [.int x, .int (moreBy x), .int (sizeBy (moreBy x))]) ?_ ?_
  · by_cases h : ((moreBy x).fdiv 3).fmod 3 = 1
    · refine s_true (by simp [evalC, binop, smallI, cmpop, shal, D.eq, h]) ?_
      refine seq_next (s_assign (d := .int (sizeBy (moreBy x))) (by simp [evalC, binop, smallI, sizeBy, h]) (by simp)) seq_nil
    · refine s_false (by simp [evalC, binop, smallI, cmpop, shal, D.eq, h]) ?_
      simp [execCs, sizeBy, h]
  · have hs := sizeBy_rng (moreBy x)
    have hm := moreBy_rng x
    have hc : evalC P.globs (callC P fuel (n + 1)) (.comp f8_e0 1 (.range1 (.var 2))) [.int x, .int (moreBy x), .int (sizeBy (moreBy x))] = some (.list ((List.range (sizeBy (moreBy x)).toNat).map fun (k : Nat) => D.str [signBy (((moreBy x + 11 * k + 1) * (moreBy x + 211 * k + 3)).fmod 1000033)])) := by
      refine e_comp_range (n := (sizeBy (moreBy x)).toNat) _ (by rw [evalC, show ((sizeBy (moreBy x)).toNat : Int) = sizeBy (moreBy x) by omega]; rfl) (by omega) ?_
      intro k hk
      have hk1 : (moreBy x + 11 * (k : Int) + 1).natAbs < 1073741824 := by omega
      have hk2 : smallI (11 : Int) = true := rfl
      have hk3 : smallI (211 : Int) = true := rfl
      have hk4 : smallI (moreBy x + 11 * (k : Int) + 1) = true := by simp [smallI, hk1]
      simp [f8_e0, evalC, evalCs, binop, hk2, hk3, hk4, t_sign_by]
    refine seq_ret (s_ret (e_fn2 (by rw [evalC]) hc ?_))
    have e : (List.range (sizeBy (moreBy x)).toNat).map (fun (k : Nat) => D.str [signBy (((moreBy x + 11 * k + 1) * (moreBy x + 211 * k + 3)).fmod 1000033)]) = ((wordBy x).map fun c => [c]).map D.str := by
      simp [wordBy, Function.comp_def]
    rw [e]
    rw [join_val 1 (by intro s hs; obtain ⟨c, _, rfl⟩ := List.mem_map.mp hs; simp) (by have := okWord_len (wordBy_ok x); simp only [List.length_map, List.length_nil]; omega), joinL_nil, flat_one]


theorem t_need_words {fuel n : Nat} (ws : List (List Nat)) (h : ∀ s ∈ ws, okWord s = true) (hl : ws.length ≤ 120) : callC P fuel (n + 3) 2 [.list (ws.map .str)] = some .none := by
  rw [call_f (F := f2) rfl]
  have g1 : P.globs[1]? = some (.int 120) := rfl
  have i2 : ¬ (120 < (ws.length : Int)) := by omega
  obtain ⟨env', he, d, rfl⟩ := forC_inv (f := fun d env => (bindTo [1] d env).bind (execCs P.globs (callC P fuel (n + 2)) fuel f2_b0)) (I := fun _ env => ∃ d, env = [.list (ws.map .str), d]) (ds := ws.map .str) (env := [.list (ws.map .str), .none]) 0 (fun i d env hd ⟨d', he⟩ => by
    subst he
    obtain ⟨c, hc, rfl⟩ := List.mem_map.mp (List.mem_of_getElem? hd)
    refine ⟨[.list (ws.map .str), .str c], ?_, _, rfl⟩
    simp [bindTo, setL, f2_b0, execCs, execC, evalC, evalCs, t_is_word c (h c hc), asB]) ⟨_, rfl⟩
  refine run_end (env := [.list (ws.map .str), d]) rfl ?_
  show execCs _ _ _ f2.body [.list (ws.map .str), .none] = _
  refine seq_next (s_false (by simp [evalC, hasTy, asB]) seq_nil) ?_
  refine seq_next (s_for (ds := ws.map .str) ?_ he) ?_
  · simp [evalIt, itemsOf]
  · refine seq_next (s_false (by simp [evalC, cmpop, fn1, g1, i2]) seq_nil) seq_nil

theorem t_near {fuel n : Nat} (w : List Nat) (c : Int) (hw : okWord w = true) : ∃ w', okWord w' = true ∧ callC P fuel (n + 2) 9 [.str w, .int c] = some (.str w') := by
  obtain ⟨h1, h2⟩ := okWord_len hw
  have h3 := okWord_all hw
  obtain ⟨a1, a2⟩ := fmod_rng c w.length (by omega)
  have hz : ¬ ((w.length : Int) = 0) := by omega
  have hz' : ¬ (w = []) := by intro h; simp [h] at h1
  obtain ⟨k, hk⟩ : ∃ k : Nat, c.fmod w.length = k := ⟨_, (Int.toNat_of_nonneg a1).symm⟩
  rw [hk] at a1 a2
  have hkl : k < w.length := by omega
  have e1 : evalC P.globs (callC P fuel (n + 1)) (.slice (.var 0) (.const .none) (.var 2)) [.str w, .int c, .int k] = some (.str (w.take k)) := by
    have hm : min k w.length = k := by omega
    have hn : ¬ ((k : Int) < 0) := by omega
    simp [evalC, sliceOp, bnd, clampI, cut, hm, hn]
  have e2 : evalC P.globs (callC P fuel (n + 1)) (.slice (.var 0) (.bin .add (.var 2) (.const (.int 1))) (.const .none)) [.str w, .int c, .int k] = some (.str (w.drop (k + 1))) := by
    have hm : min (k + 1) w.length = k + 1 := by omega
    have hn : ¬ ((k : Int) + 1 < 0) := by omega
    have hn' : ((k : Int) + 1).toNat = k + 1 := by omega
    simp [evalC, sliceOp, bnd, clampI, cut, binop, hn, hn', hm]
    exact List.take_of_length_le (by simp)
  have ha : evalC P.globs (callC P fuel (n + 1)) (.bin .mod (.var 1) (.fn1 .len (.var 0))) [.str w, .int c, .none] = some (.int k) := by
    simp [evalC, fn1, binop, hz', hk]
  by_cases q0 : (c.fdiv 41).fmod 3 = 0
  · refine ⟨w.reverse, okWord_of (by simpa using h1) (by simpa using h2) (by simpa using h3), ?_⟩
    rw [call_f (F := f9) rfl]
    refine run_ret rfl ?_
    show execCs _ _ _ f9.body [.str w, .int c, .none] = _
    refine seq_next (s_assign ha (by simp)) ?_
    refine seq_ret (s_true (by simp [evalC, binop, smallI, cmpop, shal, D.eq, q0]) (seq_ret (s_ret (e_fn2 (x := .str []) (y := .list ((w.reverse.map fun c => [c]).map .str)) (by rw [evalC]) (by simp [evalC, fn1]) ?_))))
    rw [join_val 1 (by intro s hs; obtain ⟨c, _, rfl⟩ := List.mem_map.mp hs; simp) (by simp only [List.length_map, List.length_nil, List.length_reverse]; omega), joinL_nil, flat_one]
  · by_cases q1 : (c.fdiv 41).fmod 3 = 1 ∧ 1 < w.length
    · refine ⟨w.take k ++ w.drop (k + 1), okWord_of (by simp; omega) (by simp; omega) (fun c hc => ?_), ?_⟩
      · rcases List.mem_append.mp hc with q | q
        · exact h3 c (List.mem_of_mem_take q)
        · exact h3 c (List.mem_of_mem_drop q)
      rw [call_f (F := f9) rfl]
      refine run_ret rfl ?_
      show execCs _ _ _ f9.body [.str w, .int c, .none] = _
      refine seq_next (s_assign ha (by simp)) ?_
      refine seq_next (s_false (by simp [evalC, binop, smallI, cmpop, shal, D.eq, q0]) seq_nil) ?_
      refine seq_ret (s_true (by simp [evalC, evalAnd, asB, fn1, binop, smallI, cmpop, shal, D.eq, q1.1]; omega) (seq_ret (s_ret (e_bin e1 e2 ?_))))
      rw [binop, okLen_of (by simp; omega)]; rfl
    · refine ⟨w.take k ++ [signBy (c.fdiv 123)] ++ w.drop (k + 1), okWord_of (by simp; omega) (by simp; omega) (fun c' hc => ?_), ?_⟩
      · rcases List.mem_append.mp hc with q | q
        · rcases List.mem_append.mp q with q | q
          · exact h3 c' (List.mem_of_mem_take q)
          · rw [List.mem_singleton.mp q]; exact signBy_ok _
        · exact h3 c' (List.mem_of_mem_drop q)
      rw [call_f (F := f9) rfl]
      refine run_ret rfl ?_
      show execCs _ _ _ f9.body [.str w, .int c, .none] = _
      refine seq_next (s_assign ha (by simp)) ?_
      refine seq_next (s_false (by simp [evalC, binop, smallI, cmpop, shal, D.eq, q0]) seq_nil) ?_
      refine seq_next (s_false ?_ seq_nil) ?_
      · by_cases q2 : (c.fdiv 41).fmod 3 = 1
        · have : ¬ (1 : Int) < w.length := by intro h; exact q1 ⟨q2, by omega⟩
          simp [evalC, evalAnd, asB, fn1, binop, smallI, cmpop, shal, D.eq, q2]; omega
        · simp [evalC, evalAnd, asB, fn1, binop, smallI, cmpop, shal, D.eq, q2]
      · refine seq_ret (s_ret (e_bin (e_bin e1 (e_call (es_cons (d := .int (c.fdiv 123)) (by simp [evalC, binop, smallI]) es_nil) (t_sign_by _)) (by rw [binop, okLen_of (by simp; omega)]; rfl)) e2 ?_))
        rw [binop, okLen_of (by simp; omega)]; rfl
theorem t_menu {fuel n : Nat} (ns : List Int) : ∃ m : List (List Nat), m.length = 12 ∧ (∀ s ∈ m, okWord s = true) ∧ callC P fuel (n + 3) 10 [.list (ns.map .int)] = some (.list (m.map .str)) := by
  have hcell := fun k => t_cell_at (fuel := fuel) (n := n + 1) ns k
  have hc1 : evalC P.globs (callC P fuel (n + 2)) (.comp f10_e0 1 (.range1 (.const (.int 4)))) [.list (ns.map .int), .none] = some (.list ((List.range 4).map fun (k : Nat) => .str (wordBy (cellAt ns k + 97 * k)))) := by
    refine e_comp_range _ (by rw [evalC]; rfl) (by omega) ?_
    intro k hk
    simp [f10_e0, evalC, evalCs, binop, smallI, hcell, t_word_by]
  obtain ⟨m4, hm4, hok, hr⟩ : ∃ m4 : List (List Nat), m4.length = 4 ∧ (∀ s ∈ m4, okWord s = true) ∧ ∀ r o, execCs P.globs (callC P fuel (n + 2)) fuel r [.list (ns.map .int), .list (m4.map .str)] = o →
      execCs P.globs (callC P fuel (n + 2)) fuel (f10.body.take 2 ++ r) [.list (ns.map .int), .none] = o := by
    have hb : (List.range 4).map (fun (k : Nat) => D.str (wordBy (cellAt ns k + 97 * k))) = [D.str (wordBy (cellAt ns 0 + 97 * (0 : Nat))), .str (wordBy (cellAt ns 1 + 97 * (1 : Nat))), .str (wordBy (cellAt ns 2 + 97 * (2 : Nat))), .str (wordBy (cellAt ns 3 + 97 * (3 : Nat)))] := rfl
    rw [hb] at hc1
    have h0 := hcell 0
    have h1 := hcell 1
    have h2 := hcell 2
    simp only [Int.natCast_zero, Int.cast_ofNat_Int] at h0 h1 h2
    by_cases q : (cellAt ns 0).fmod 2 = 1
    · obtain ⟨w1, hw1, e1⟩ := t_near (fuel := fuel) (n := n) (wordBy (cellAt ns 0 + 97 * (0 : Nat))) (cellAt ns 1) (wordBy_ok _)
      obtain ⟨w3, hw3, e3⟩ := t_near (fuel := fuel) (n := n) (wordBy (cellAt ns 2 + 97 * (2 : Nat))) (cellAt ns 2) (wordBy_ok _)
      refine ⟨[wordBy (cellAt ns 0 + 97 * (0 : Nat)), w1, wordBy (cellAt ns 2 + 97 * (2 : Nat)), w3], rfl, ?_, ?_⟩
      · intro s hs
        simp only [List.mem_cons, List.not_mem_nil, or_false] at hs
        rcases hs with rfl | rfl | rfl | rfl
        · exact wordBy_ok _
        · exact hw1
        · exact wordBy_ok _
        · exact hw3
      · intro r o ho
        refine seq_next (s_assign hc1 (by simp)) ?_
        refine seq_next (s_true (by simp [evalC, evalCs, h0, binop, cmpop, shal, D.eq, q]) (seq_next (s_setItem (e_call (es_cons (e_index (by rw [evalC]; rfl) (by rw [evalC]) rfl) (es_cons (e_call (es_cons (by rw [evalC]; rfl) (es_cons (by rw [evalC]) es_nil)) h1) es_nil)) e1) rfl (by rw [evalC]) (p := 1) rfl) (seq_next (s_setItem (e_call (es_cons (e_index (by rw [evalC]; rfl) (by rw [evalC]) rfl) (es_cons (e_call (es_cons (by rw [evalC]; rfl) (es_cons (by rw [evalC]) es_nil)) h2) es_nil)) e3) rfl (by rw [evalC]) (p := 3) rfl) seq_nil))) ?_
        exact ho
    · refine ⟨[wordBy (cellAt ns 0 + 97 * (0 : Nat)), wordBy (cellAt ns 1 + 97 * (1 : Nat)), wordBy (cellAt ns 2 + 97 * (2 : Nat)), wordBy (cellAt ns 3 + 97 * (3 : Nat))], rfl, ?_, ?_⟩
      · intro s hs
        simp only [List.mem_cons, List.not_mem_nil, or_false] at hs
        rcases hs with rfl | rfl | rfl | rfl <;> exact wordBy_ok _
      · intro r o ho
        refine seq_next (s_assign hc1 (by simp)) ?_
        refine seq_next (s_false (by simp [evalC, evalCs, h0, binop, cmpop, shal, D.eq, q]) seq_nil) ?_
        exact ho
  have h3 := hcell 3
  simp only [Int.cast_ofNat_Int] at h3
  by_cases q : (cellAt ns 3).fmod 4 = 1
  · refine ⟨m4 ++ (List.range 8).map (fun (k : Nat) => wordBy (cellAt ns (k % 3) + 97 * k + 13)), by simp [hm4], ?_, ?_⟩
    · intro s hs
      rcases List.mem_append.mp hs with hs | hs
      · exact hok s hs
      · obtain ⟨_, _, rfl⟩ := List.mem_map.mp hs; exact wordBy_ok _
    · rw [call_f (F := f10) rfl]
      refine run_ret rfl ?_
      refine hr (f10.body.drop 2) _ ?_
      refine seq_ret (s_true (by simp [evalC, evalCs, h3, binop, cmpop, shal, D.eq, q]) (seq_ret (s_ret (e_bin (x := .list (m4.map .str)) (by rw [evalC]; rfl) (e_comp_range (n := 8) (fun (k : Nat) => .str (wordBy (cellAt ns (k % 3) + 97 * k + 13))) (by rw [evalC]; rfl) (by omega) ?_) ?_))))
      · intro k hk
        have hm : (k : Int).fmod 3 = ((k % 3 : Nat) : Int) := by rw [Int.fmod_eq_emod_of_nonneg _ (by omega)]; omega
        have := hcell (k % 3)
        simp only [Int.natCast_emod, Int.cast_ofNat_Int] at this
        simp [f10_e1, evalC, evalCs, binop, smallI, hm, this, t_word_by]
      · rw [binop, okLen_of (by simp [hm4])]; simp [Function.comp_def]
  · refine ⟨m4 ++ (m4 ++ m4), by simp [hm4], ?_, ?_⟩
    · intro s hs
      rcases List.mem_append.mp hs with hs | hs
      · exact hok s hs
      · rcases List.mem_append.mp hs with hs | hs <;> exact hok s hs
    · rw [call_f (F := f10) rfl]
      refine run_ret rfl ?_
      refine hr (f10.body.drop 2) _ ?_
      refine seq_next (s_false (by simp [evalC, evalCs, h3, binop, cmpop, shal, D.eq, q]) seq_nil) ?_
      refine seq_ret (s_ret (e_bin (x := .list (m4.map .str)) (y := .int 3) (by rw [evalC]; rfl) (by rw [evalC]) ?_))
      rw [binop, okLen_of (by simp [hm4]), okLen_of (by decide), rep_three]; simp

theorem t_step {fuel n : Nat} (m : List (List Nat)) (h12 : m.length = 12) (hok : ∀ s ∈ m, okWord s = true) (c : Int) :
    ∃ p : Stp, (okStep p ∧ p.2.length ≤ 7) ∧ callC P fuel (n + 1) 11 [.list (m.map .str), .int c] = some (stepD p) := by
  obtain ⟨c1, c2⟩ := fmod_rng c 6 (by omega)
  obtain ⟨k, hk⟩ : ∃ k : Nat, c.fmod 6 = k := ⟨_, (Int.toNat_of_nonneg c1).symm⟩
  have hk6 : k < 6 := by omega
  have hkind : ∃ kd, (kd = kK ∨ kd = kC ∨ kd = kP) ∧ [D.str kK, .str kK, .str kC, .str kP, .str kC, .str kP].getD k .none = .str kd := by
    match k, hk6 with
    | 0, _ => exact ⟨kK, .inl rfl, rfl⟩
    | 1, _ => exact ⟨kK, .inl rfl, rfl⟩
    | 2, _ => exact ⟨kC, .inr (.inl rfl), rfl⟩
    | 3, _ => exact ⟨kP, .inr (.inr rfl), rfl⟩
    | 4, _ => exact ⟨kC, .inr (.inl rfl), rfl⟩
    | 5, _ => exact ⟨kP, .inr (.inr rfl), rfl⟩
    | n + 6, h => omega
  obtain ⟨kd, hkd, ekd⟩ := hkind
  have hsize : ∃ z : Nat, z ≤ 7 ∧ ∀ r o, execCs P.globs (callC P fuel n) fuel r [.list (m.map .str), .int c, .str kd, .int z] = o → execCs P.globs (callC P fuel n) fuel (f11.body.take 3 ++ r) [.list (m.map .str), .int c, .none, .none] = o := by
    have hp := pick (xs := [D.str kK, .str kK, .str kC, .str kP, .str kC, .str kP]) c 6 (by omega) rfl
    rw [hk, Int.toNat_natCast, ekd] at hp
    have hs1 : evalC P.globs (callC P fuel n) (.bin .mod (.var 1) (.const (.int 6))) [.list (m.map .str), .int c, .none, .none] = some (.int k) := by simp [evalC, binop, hk]
    by_cases q : 3 < k
    · obtain ⟨d1, d2⟩ := fmod_rng ((c * 48271).fmod 1009) 5 (by omega)
      obtain ⟨j, hj⟩ : ∃ k : Nat, ((c * 48271).fmod 1009).fmod 5 = k := ⟨_, (Int.toNat_of_nonneg d1).symm⟩
      have hp2 := pick (xs := [D.int 2, .int 3, .int 2, .int 3, .int 7]) ((c * 48271).fmod 1009) 5 (by omega) rfl
      have hj5 : j < 5 := by omega
      have hz : ∃ z : Nat, z ≤ 7 ∧ [D.int 2, .int 3, .int 2, .int 3, .int 7].getD j .none = .int z := by
        match j, hj5 with
        | 0, _ => exact ⟨2, by omega, rfl⟩
        | 1, _ => exact ⟨3, by omega, rfl⟩
        | 2, _ => exact ⟨2, by omega, rfl⟩
        | 3, _ => exact ⟨3, by omega, rfl⟩
        | 4, _ => exact ⟨7, by omega, rfl⟩
        | n + 5, h => omega
      obtain ⟨z, hz, ez⟩ := hz
      rw [hj, Int.toNat_natCast, ez] at hp2
      refine ⟨z, hz, fun r o ho => ?_⟩
      refine seq_next (s_assign (e_index (x := .list [D.str kK, .str kK, .str kC, .str kP, .str kC, .str kP]) (by simp [evalC, evalCs, kK, kC, kP]) hs1 hp) (by simp)) ?_
      refine seq_next (s_assign e_const (by simp)) ?_
      refine seq_next (s_true (by simp [evalC, binop, hk, cmpop]; omega) (seq_next (s_assign (e_index (x := .list [D.int 2, .int 3, .int 2, .int 3, .int 7]) (by simp [evalC, evalCs]) (y := .int j) (by simp [evalC, binop, smallI, hj]) hp2) (by simp)) seq_nil)) ?_
      exact ho
    · refine ⟨1, by omega, fun r o ho => ?_⟩
      refine seq_next (s_assign (e_index (x := .list [D.str kK, .str kK, .str kC, .str kP, .str kC, .str kP]) (by simp [evalC, evalCs, kK, kC, kP]) hs1 hp) (by simp)) ?_
      refine seq_next (s_assign e_const (by simp)) ?_
      refine seq_next (s_false (by simp [evalC, binop, hk, cmpop]; omega) seq_nil) ?_
      exact ho
  obtain ⟨z, hz, hr⟩ := hsize
  obtain ⟨bs, hb1, hb2, hb3⟩ := e_comp_ex (G := P.globs) (K := callC P fuel n) (elt := f11_e0) (it := .range1 (.var 3)) (env := [.list (m.map .str), .int c, .str kd, .int z]) (R := fun s => okWord s = true) D.str (its_range1 (n := z) (e_var rfl) (by omega)) (fun x hx => by
    obtain ⟨i, hi, rfl⟩ := List.mem_map.mp hx
    have e := nat_of_mod (c.fdiv 6 + i) 12 (by omega)
    have h2 := fmod_rng (c.fdiv 6 + i) 12 (by omega)
    have hl : ((c.fdiv 6 + i).fmod 12).toNat < m.length := by omega
    refine ⟨m[((c.fdiv 6 + i).fmod 12).toNat], hok _ (List.getElem_mem hl), ?_⟩
    have hz6 : ¬ ((6 : Int) = 0) := by omega
    refine e_index (x := .list (m.map .str)) (y := .int ((c.fdiv 6 + i).fmod 12)) (e_var rfl) (by simp [evalC, binop, smallI]) ?_
    have := pick (xs := m.map D.str) (c.fdiv 6 + i) 12 (by omega) (by simp [h12])
    rw [this, List.getD_eq_getElem?_getD, List.getElem?_map, List.getElem?_eq_getElem hl]; rfl)
  refine ⟨(kd, bs), ⟨⟨hkd, hb2⟩, by rw [hb1]; simpa using hz⟩, ?_⟩
  rw [call_f (F := f11) rfl]
  refine run_ret rfl ?_
  refine hr (f11.body.drop 3) _ ?_
  exact seq_ret (s_ret (e_tuple (es_cons (e_var rfl) (es_cons hb3 es_nil))))
theorem t_side {fuel n : Nat} (k : List Nat) (ps : List Stp) (ht : total ps ≤ 1000) : callC P fuel (n + 1) 13 [.list (ps.map stepD), .str k] = some (.list ((sideW k ps).map .str)) := by
  rw [call_f (F := f13) rfl]
  refine run_ret rfl ?_
  show execCs _ _ _ f13.body [.list (ps.map stepD), .str k, .none, .none] = _
  refine seq_next (s_assign (e_list es_nil) (by simp)) ?_
  obtain ⟨env', he, d, rfl⟩ := forC_inv (f := fun d env => (bindTo [3] d env).bind (execCs P.globs (callC P fuel n) fuel f13_b0)) (I := fun i env => ∃ d, env = [.list (ps.map stepD), .str k, .list ((sideW k (ps.take i)).map .str), d]) (ds := ps.map stepD) (env := [.list (ps.map stepD), .str k, .list [], .none]) 0 (fun i d env hd ⟨d', he⟩ => by
    subst he
    simp only [Nat.zero_add]
    rw [List.getElem?_map, Option.map_eq_some_iff] at hd
    obtain ⟨p, hp, rfl⟩ := hd
    refine ⟨[.list (ps.map stepD), .str k, .list ((sideW k (ps.take (i + 1))).map .str), stepD p], ?_, _, rfl⟩
    have e : sideW k (ps.take (i + 1)) = sideW k (ps.take i) ++ sideW k [p] := by
      rw [List.take_add_one, hp, Option.toList_some]; simp [sideW]
    have h1 := sideW_len k (ps.take (i + 1))
    have h2 := total_take ps (i + 1)
    rw [e, List.length_append] at h1
    show execCs P.globs (callC P fuel n) fuel f13_b0 [.list (ps.map stepD), .str k, .list ((sideW k (ps.take i)).map .str), stepD p] = _
    have hi0 : indexOp (stepD p) (.int 0) = some (.str p.1) := rfl
    have hi1 : indexOp (stepD p) (.int 1) = some (.list (p.2.map .str)) := rfl
    by_cases q : (p.1 == kK || p.1 == k) = true
    · have hs : sideW k [p] = p.2 := by simp [sideW, q]
      rw [hs] at e h1
      refine seq_next (s_true ?_ (seq_next (s_assign (e_bin (e_var rfl) (e_index (e_var rfl) e_const hi1) (add_list (by simp; omega))) (by simp)) seq_nil)) ?_
      · simp only [kK] at q
        by_cases q' : p.1 = [107, 101, 101, 112]
        · simp [evalC, evalOr, hi0, cmpop, shal, D.eq, asB, q']
        · simp [q'] at q
          simp [evalC, evalOr, hi0, cmpop, shal, D.eq, asB, q', q]
      · rw [seq_nil, e]; simp
    · have hs : sideW k [p] = [] := by simp [sideW, q]
      rw [hs, List.append_nil] at e
      refine seq_next (s_false ?_ seq_nil) ?_
      · simp [kK] at q
        simp [evalC, evalOr, hi0, cmpop, shal, D.eq, asB, q.1, q.2]
      · rw [seq_nil, e]) ⟨_, rfl⟩
  refine seq_next (s_for (it_var rfl rfl) he) ?_
  rw [Nat.zero_add, List.length_map, List.take_length]
  exact seq_ret (s_ret (e_var rfl))

theorem t_way {fuel n : Nat} (ns : List Int) (many : Nat) (hm : many ≤ 10) : ∃ ps : List Stp, (∀ p ∈ ps, okStep p) ∧ total ps ≤ 120 ∧ callC P fuel (n + 4) 12 [.list (ns.map .int), .int many] = some (.list (ps.map stepD)) := by
  obtain ⟨m, h12, hok, hmenu⟩ := t_menu (fuel := fuel) (n := n) ns
  obtain ⟨ps, hl, hps, hcomp⟩ := e_comp_ex (G := P.globs) (K := callC P fuel (n + 3)) (elt := f12_e0) (it := .slice (.var 0) (.const (.int 4)) (.bin .add (.const (.int 4)) (.var 1))) (env := [.list (ns.map .int), .int many, .list (m.map .str), .none, .none]) (xs := (cut ns (min 4 ns.length) (min (4 + many) ns.length)).map D.int) (R := fun p : Stp => okStep p ∧ p.2.length ≤ 7) stepD (it_slice (e_var rfl) e_const (e_bin e_const (e_var rfl) rfl) (by
      have := slice_list (xs := ns.map D.int) 4 (4 + many)
      simp only [Int.natCast_add, Int.cast_ofNat_Int, List.length_map, cut_map] at this
      exact this) rfl) (fun x hx => by
    obtain ⟨c, _, rfl⟩ := List.mem_map.mp hx
    obtain ⟨p, hp, e⟩ := t_step (fuel := fuel) (n := n + 2) m h12 hok c
    exact ⟨p, hp, e_call (es_cons (e_var rfl) (es_cons (e_var rfl) es_nil)) e⟩)
  have hlen : ps.length ≤ many := by
    rw [hl, List.length_map]
    have := cut_len ns (min 4 ns.length) (min (4 + many) ns.length)
    omega
  have htot := total_le (b := 7) fun p hp => (hps p hp).2
  have htot' : ps.length * 7 ≤ 70 := by omega
  have h3 := t_cell_at (fuel := fuel) (n := n + 2) ns 3
  simp only [Int.cast_ofNat_Int] at h3
  by_cases q : ((cellAt ns 3).fdiv 4).fmod 8 = 3
  · refine ⟨[(kK, m), (kC, m.take 2), (kK, cut m 2 6)] ++ ps.take (many / 2), ?_, ?_, ?_⟩
    · intro p hp
      rcases List.mem_append.mp hp with hp | hp
      · simp only [List.mem_cons, List.not_mem_nil, or_false] at hp
        rcases hp with rfl | rfl | rfl
        · exact ⟨.inl rfl, hok⟩
        · exact ⟨.inr (.inl rfl), fun s hs => hok s (List.mem_of_mem_take hs)⟩
        · exact ⟨.inl rfl, fun s hs => hok s (mem_cut hs)⟩
      · exact (hps p (List.mem_of_mem_take hp)).1
    · rw [total_append]
      have h1 := total_take ps (many / 2)
      have h2 := cut_len m 2 6
      simp only [total, List.map_cons, List.map_nil, List.sum_cons, List.sum_nil, List.length_take, h12] at h1 ⊢
      simp only [total] at htot
      omega
    · rw [call_f (F := f12) rfl]
      refine run_ret rfl ?_
      show execCs _ _ _ f12.body [.list (ns.map .int), .int many, .none, .none, .none] = _
      refine seq_next (s_assign (e_call (es_cons (e_var rfl) es_nil) hmenu) (by simp)) ?_
      refine seq_next (s_assign hcomp (by simp)) ?_
      have hs1 := slice_to (xs := m.map D.str) 2
      have hs2 := slice_list (xs := m.map D.str) 2 6
      have hs3 := slice_to (xs := ps.map stepD) (many / 2)
      have hd : (many : Int).fdiv 2 = ((many / 2 : Nat) : Int) := by rw [Int.fdiv_eq_ediv_of_nonneg _ (by omega)]; omega
      simp only [List.length_map, h12, cut_map, Int.cast_ofNat_Int] at hs1 hs2
      refine seq_ret (s_true (by simp [evalC, evalCs, h3, binop, smallI, cmpop, shal, D.eq, q]) (seq_next (s_assign (e_list (es_cons (e_tuple (es_cons e_const (es_cons (e_var rfl) es_nil))) (es_cons (e_tuple (es_cons e_const (es_cons (e_slice (e_var rfl) e_const e_const hs1) es_nil))) (es_cons (e_tuple (es_cons e_const (es_cons (e_slice (e_var rfl) e_const e_const hs2) es_nil))) es_nil)))) (by simp)) (seq_ret (s_ret (e_bin (e_var rfl) (e_slice (e_var rfl) e_const (y := .none) (z := .int ((many / 2 : Nat) : Int)) (by simp [evalC, binop, smallI, hd]) hs3) ?_)))))
      rw [add_list (by simp; omega)]
      simp [stepD, kK, kC, List.map_take]
  · refine ⟨ps, fun p hp => (hps p hp).1, by omega, ?_⟩
    rw [call_f (F := f12) rfl]
    refine run_ret rfl ?_
    show execCs _ _ _ f12.body [.list (ns.map .int), .int many, .none, .none, .none] = _
    refine seq_next (s_assign (e_call (es_cons (e_var rfl) es_nil) hmenu) (by simp)) ?_
    refine seq_next (s_assign hcomp (by simp)) ?_
    refine seq_next (s_false (by simp [evalC, evalCs, h3, binop, smallI, cmpop, shal, D.eq, q]) seq_nil) ?_
    exact seq_ret (s_ret (e_var rfl))

theorem t_reckoned {fuel n : Nat} (old new : List (List Nat)) (ho : old.length ≤ 1000) (hn : new.length ≤ 1000) : callC P fuel (n + 1) 3 [.list (old.map .str), .list (new.map .str)] = some (.list (tbl old new)) := by
  rw [call_f (F := f3) rfl]
  refine run_ret rfl ?_
  show execCs _ _ _ f3.body [.list (old.map .str), .list (new.map .str), .none, .none, .none, .none, .none] = _
  refine seq_next (s_assign (d := .list [.list (tblRow old new old.length)]) (e_list (es_cons ?_ es_nil)) (by simp)) ?_
  · have h := e_comp_range (G := P.globs) (K := callC P fuel n) (elt := f3_e0) (e := .bin .add (.fn1 .len (.var 1)) (.const (.int 1))) (env := [.list (old.map .str), .list (new.map .str), .none, .none, .none, .none, .none]) (n := new.length + 1) (fun k => D.int (costF (old.drop old.length) (new.drop k))) (by simp [evalC, fn1, binop]) (by omega) (fun k hk => by
      simp [f3_e0, evalC, fn1, binop, costF]; omega)
    exact h
  · obtain ⟨env', he, d1, d2, d3, d4, rfl⟩ := forC_inv (f := fun d env => (bindTo [3] d env).bind (execCs P.globs (callC P fuel n) fuel f3_b1))
      (I := fun j env => ∃ d1 d2 d3 d4, env = [.list (old.map .str), .list (new.map .str), .list ((List.range (j + 1)).map fun s => D.list (tblRow old new (old.length - s))), d1, d2, d3, d4])
      (ds := (List.range old.length).map fun (j : Nat) => D.int ((old.length - 1 - j : Nat) : Int))
      (env := [.list (old.map .str), .list (new.map .str), .list [.list (tblRow old new old.length)], .none, .none, .none, .none]) 0 (fun j d env hd ⟨d1, d2, d3, d4, he⟩ => by
      subst he
      simp only [Nat.zero_add]
      rw [List.getElem?_map, Option.map_eq_some_iff] at hd
      obtain ⟨j', hj', rfl⟩ := hd
      obtain ⟨hj, rfl⟩ := List.getElem?_eq_some_iff.mp hj'
      simp only [List.length_range] at hj
      rw [List.getElem_range]
      obtain ⟨i, hi⟩ : ∃ i, i = old.length - 1 - j := ⟨_, rfl⟩
      have hio : i < old.length := by omega
      rw [← hi]
      refine ⟨[.list (old.map .str), .list (new.map .str), .list ((List.range (j + 1 + 1)).map fun s => D.list (tblRow old new (old.length - s))), .int i, .list (tblRow old new (i + 1)), .list (tblRow old new i), if new.length = 0 then d4 else .int 0], ?_, _, _, _, _, rfl⟩
      show execCs P.globs (callC P fuel n) fuel f3_b1 [.list (old.map .str), .list (new.map .str), .list ((List.range (j + 1)).map fun s => D.list (tblRow old new (old.length - s))), .int i, d2, d3, d4] = _
      refine seq_next (s_assign (d := .list (tblRow old new (i + 1))) (e_index (e_var rfl) e_neg1 (by rw [idx_last_range, show old.length - j = i + 1 by omega])) (by simp)) ?_
      refine seq_next (s_assign (d := .list [.int (costF (old.drop i) [])]) (e_list (es_cons (by simp [evalC, fn1, binop, costF_nil]; omega) es_nil)) (by simp)) ?_
      obtain ⟨env', he, h4⟩ := forC_inv (f := fun d env => (bindTo [6] d env).bind (execCs P.globs (callC P fuel n) fuel f3_b0))
        (I := fun t env => env = [.list (old.map .str), .list (new.map .str), .list ((List.range (j + 1)).map fun s => D.list (tblRow old new (old.length - s))), .int i, .list (tblRow old new (i + 1)), .list ((List.range (t + 1)).map fun s => D.int (costF (old.drop i) (new.drop (new.length - s)))), if t = 0 then d4 else .int ((new.length - t : Nat) : Int)])
        (ds := (List.range new.length).map fun (j : Nat) => D.int ((new.length - 1 - j : Nat) : Int))
        (env := [.list (old.map .str), .list (new.map .str), .list ((List.range (j + 1)).map fun s => D.list (tblRow old new (old.length - s))), .int i, .list (tblRow old new (i + 1)), .list [.int (costF (old.drop i) [])], d4]) 0 (fun t d env hd he => by
        subst he
        simp only [Nat.zero_add]
        rw [List.getElem?_map, Option.map_eq_some_iff] at hd
        obtain ⟨t', ht', rfl⟩ := hd
        obtain ⟨ht, rfl⟩ := List.getElem?_eq_some_iff.mp ht'
        simp only [List.length_range] at ht
        rw [List.getElem_range]
        obtain ⟨k, hk⟩ : ∃ k, k = new.length - 1 - t := ⟨_, rfl⟩
        have hkn : k < new.length := by omega
        refine ⟨_, ?_, rfl⟩
        rw [← hk]
        show execCs P.globs (callC P fuel n) fuel f3_b0 [.list (old.map .str), .list (new.map .str), .list ((List.range (j + 1)).map fun s => D.list (tblRow old new (old.length - s))), .int i, .list (tblRow old new (i + 1)), .list ((List.range (t + 1)).map fun s => D.int (costF (old.drop i) (new.drop (new.length - s)))), .int k] = _
        have hs := costF_step (old := old) (new := new) hio hkn
        have hcmp : evalC P.globs (callC P fuel n) (.cmp .eq (.index (.var 0) (.var 3)) (.index (.var 1) (.var 6))) [.list (old.map .str), .list (new.map .str), .list ((List.range (j + 1)).map fun s => D.list (tblRow old new (old.length - s))), .int i, .list (tblRow old new (i + 1)), .list ((List.range (t + 1)).map fun s => D.int (costF (old.drop i) (new.drop (new.length - s)))), .int k] = some (.bool (decide (old[i] = new[k]))) :=
          e_cmp (e_index (e_var rfl) (e_var rfl) (idx_nat (d := .str old[i]) (by simp [hio]))) (e_index (e_var rfl) (e_var rfl) (idx_nat (d := .str new[k]) (by simp [hkn]))) (cmp_eq_str _ _)
        have hrow : ∀ v : Int, v = costF (old.drop i) (new.drop k) → ((List.range (t + 1)).map fun s => D.int (costF (old.drop i) (new.drop (new.length - s)))) ++ [D.int v] = (List.range (t + 1 + 1)).map fun s => D.int (costF (old.drop i) (new.drop (new.length - s))) := by
          intro v hv
          rw [List.range_succ (n := t + 1), List.map_append, hv, show k = new.length - (t + 1) by omega]; rfl
        have hu : ∀ k', k' ≤ new.length → (tblRow old new (i + 1))[k']? = some (.int (costF (old.drop (i + 1)) (new.drop k'))) := by
          intro k' hk'
          simp [tblRow, show k' < new.length + 1 by omega]
        by_cases q : old[i] = new[k]
        · rw [if_pos q] at hs
          refine seq_next (s_true (by rw [hcmp]; simp [q]) (seq_next (s_append (v := .int (costF (old.drop (i + 1)) (new.drop (k + 1)))) (e_index (y := .int ((k + 1 : Nat) : Int)) (e_var rfl) (by simp [evalC, binop]) (idx_nat (hu (k + 1) (by omega)))) rfl (okLen_of (by simp; omega))) seq_nil)) ?_
          rw [seq_nil, hrow _ hs.symm]
          rw [show k = new.length - (t + 1) by omega]
          simp
        · rw [if_neg q] at hs
          refine seq_next (s_false (by rw [hcmp]; simp [q]) (seq_next (s_append (v := .int (1 + min (costF (old.drop (i + 1)) (new.drop k)) (costF (old.drop i) (new.drop (k + 1))))) (e_bin e_const (e_fn2 (e_index (e_var rfl) (e_var rfl) (idx_nat (hu k (by omega)))) (e_index (e_var rfl) e_neg1 (idx_last_range _ t)) (min_int _ _)) ?_) rfl (okLen_of (by simp; omega))) seq_nil)) ?_
          · rw [show new.length - t = k + 1 by omega]; rfl
          · rw [seq_nil, hrow _ hs.symm]
            rw [show k = new.length - (t + 1) by omega]
            simp) (by simp)
      refine seq_next (s_for (it_rangeDown (n := new.length) (by simp [evalC, fn1, binop]) (by omega)) he) ?_
      rw [h4]
      refine seq_next (s_reverse rfl) ?_
      rw [Nat.zero_add, List.length_map, List.length_range, rev_range (fun s => D.int (costF (old.drop i) (new.drop s)))]
      refine seq_next (s_append (e_var rfl) rfl (okLen_of (by simp; omega))) ?_
      rw [seq_nil, List.range_succ (n := j + 1), List.map_append, show i = old.length - (j + 1) by omega]
      simp [tblRow]) ⟨_, _, _, _, rfl⟩
    refine seq_next (s_for (it_rangeDown (n := old.length) (by simp [evalC, fn1, binop]) (by omega)) he) ?_
    refine seq_next (s_reverse rfl) ?_
    rw [Nat.zero_add, List.length_map, List.length_range, rev_range (fun s => D.list (tblRow old new s))]
    exact seq_ret (s_ret (e_var rfl))

theorem t_table {fuel n : Nat} (old new : List (List Nat)) (h1 : ∀ s ∈ old, okWord s = true) (h2 : ∀ s ∈ new, okWord s = true) (ho : old.length ≤ 120) (hn : new.length ≤ 120) :
    callC P fuel (n + 4) 4 [.list (old.map .str), .list (new.map .str)] = some (.list (tbl old new)) := by
  rw [call_f (F := f4) rfl]
  refine run_ret rfl ?_
  show execCs _ _ _ f4.body [.list (old.map .str), .list (new.map .str)] = _
  refine seq_next (s_expr (e_call (es_cons (e_var rfl) es_nil) (t_need_words old h1 ho))) ?_
  refine seq_next (s_expr (e_call (es_cons (e_var rfl) es_nil) (t_need_words new h2 hn))) ?_
  exact seq_ret (s_ret (e_call (es_cons (e_var rfl) (es_cons (e_var rfl) es_nil)) (t_reckoned old new (by omega) (by omega))))
theorem tbl_at {old new : List (List Nat)} {i : Nat} (hi : i ≤ old.length) : indexOp (.list (tbl old new)) (.int i) = some (.list (tblRow old new i)) := by
  refine idx_nat ?_
  simp [tbl, show i < old.length + 1 by omega]
theorem row_at {old new : List (List Nat)} {i k : Nat} (hk : k ≤ new.length) : indexOp (.list (tblRow old new i)) (.int k) = some (.int (costF (old.drop i) (new.drop k))) := by
  refine idx_nat ?_
  simp [tblRow, show k < new.length + 1 by omega]
theorem t_apart {fuel n : Nat} (old new : List (List Nat)) (h1 : ∀ s ∈ old, okWord s = true) (h2 : ∀ s ∈ new, okWord s = true) (ho : old.length ≤ 120) (hn : new.length ≤ 120) :
    callC P fuel (n + 5) 5 [.list (old.map .str), .list (new.map .str)] = some (.int (costF old new)) := by
  rw [call_f (F := f5) rfl]
  refine run_ret rfl ?_
  show execCs _ _ _ f5.body [.list (old.map .str), .list (new.map .str)] = _
  exact seq_ret (s_ret (e_index (e_index (e_call (es_cons (e_var rfl) (es_cons (e_var rfl) es_nil)) (t_table old new h1 h2 ho hn)) e_const (tbl_at (i := 0) (Nat.zero_le _))) e_const (row_at (i := 0) (k := 0) (Nat.zero_le _))))
theorem t_whole {fuel n : Nat} (i : Int) : callC P fuel (n + 1) 14 [.int i] = some (.bool true) := by
  rw [call_f (F := f14) rfl]
  refine run_ret rfl ?_
  show execCs _ _ _ f14.body [.int i] = _
  exact seq_ret (s_ret (by simp [evalC, evalAnd, hasTy, asB]))
theorem t_kinds {fuel n : Nat} (old new : List (List Nat)) : callC P fuel (n + 2) 15 [.list (tbl old new), .int (old.length + 1 : Nat), .int (new.length + 1 : Nat)] = some (.bool true) := by
  rw [call_f (F := f15) rfl]
  refine run_ret rfl ?_
  show execCs _ _ _ f15.body [.list (tbl old new), .int (old.length + 1 : Nat), .int (new.length + 1 : Nat), .none] = _
  have hl : (tbl old new).length = old.length + 1 := by simp [tbl]
  refine seq_next (s_false (by simp [evalC, evalOr, hasTy, asB, fn1, cmpop, shal, D.eq, hl]) seq_nil) ?_
  obtain ⟨env', he, d, rfl⟩ := forC_inv (f := fun d env => (bindTo [3] d env).bind (execCs P.globs (callC P fuel (n + 1)) fuel f15_b0)) (I := fun _ env => ∃ d, env = [.list (tbl old new), .int (old.length + 1 : Nat), .int (new.length + 1 : Nat), d]) (ds := tbl old new) (env := [.list (tbl old new), .int (old.length + 1 : Nat), .int (new.length + 1 : Nat), .none]) 0 (fun i d env hd ⟨d', he⟩ => by
    subst he
    obtain ⟨j, hj, rfl⟩ := List.mem_map.mp (List.mem_of_getElem? hd)
    refine ⟨[.list (tbl old new), .int (old.length + 1 : Nat), .int (new.length + 1 : Nat), .list (tblRow old new j)], ?_, _, rfl⟩
    show execCs P.globs (callC P fuel (n + 1)) fuel f15_b0 [.list (tbl old new), .int (old.length + 1 : Nat), .int (new.length + 1 : Nat), .list (tblRow old new j)] = _
    have h1 : evalC P.globs (callC P fuel (n + 1)) (.comp f15_e0 1 (.var 3)) [.list (tbl old new), .int (old.length + 1 : Nat), .int (new.length + 1 : Nat), .list (tblRow old new j)] = some (.list ((List.range (new.length + 1)).map fun _ => .bool true)) := by
      refine e_comp (i := fun k => D.int (costF (old.drop j) (new.drop k))) _ (it_var rfl rfl) ?_
      intro w _
      exact e_call (es_cons (e_var rfl) es_nil) (t_whole _)
    have h2 : mapO asB ((List.range (new.length + 1)).map fun _ => D.bool true) = some ((List.range (new.length + 1)).map fun _ => true) := mapO_map2 (by simp [asB])
    have h3 : (tblRow old new j).length = new.length + 1 := by simp [tblRow]
    have h4 : evalC P.globs (callC P fuel (n + 1)) (.fn1 .all (.comp f15_e0 1 (.var 3))) [.list (tbl old new), .int (old.length + 1 : Nat), .int (new.length + 1 : Nat), .list (tblRow old new j)] = some (.bool true) := e_fn1 h1 (by rw [fn1, h2]; simp)
    refine seq_next (s_false ?_ seq_nil) seq_nil
    exact or_f (by simp [evalC, hasTy, asB]) (or_f (e_cmp (e_fn1 (e_var rfl) rfl) (e_var rfl) (by rw [h3, cmp_ne_int]; simp)) (or_1 (e_not h4)))) ⟨_, rfl⟩
  refine seq_next (s_for (it_var rfl rfl) he) ?_
  exact seq_ret (s_ret e_const)
theorem t_due {fuel n : Nat} (old new : List (List Nat)) (i k : Nat) (hi : i ≤ old.length) (hk : k ≤ new.length) :
    callC P fuel (n + 1) 16 [.list (tbl old new), .list (old.map .str), .list (new.map .str), .int i, .int k] = some (.int (costF (old.drop i) (new.drop k))) := by
  rw [call_f (F := f16) rfl]
  refine run_ret rfl ?_
  show execCs _ _ _ f16.body [.list (tbl old new), .list (old.map .str), .list (new.map .str), .int i, .int k] = _
  by_cases q : i = old.length ∨ k = new.length
  · refine seq_ret (s_true (by
      rcases q with q | q
      · simp [evalC, evalOr, asB, fn1, cmpop, shal, D.eq, q]
      · simp [evalC, evalOr, asB, fn1, cmpop, shal, D.eq, q]) (seq_ret (s_ret ?_)))
    have : (old.length : Int) - i + new.length - k = costF (old.drop i) (new.drop k) := by
      rcases q with q | q
      · rw [q, List.drop_length, costF, List.length_drop]; omega
      · rw [q, List.drop_length, costF_nil, List.length_drop]; omega
    simp [evalC, fn1, binop, this]
  · have hi' : i < old.length := by omega
    have hk' : k < new.length := by omega
    have hs := costF_step (old := old) (new := new) hi' hk'
    refine seq_next (s_false (by
      have q1 : ¬ ((i : Int) = old.length) := by omega
      have q2 : ¬ ((k : Int) = new.length) := by omega
      simp [evalC, evalOr, asB, fn1, cmpop, shal, D.eq, q1, q2]) seq_nil) ?_
    have hcmp : evalC P.globs (callC P fuel n) (.cmp .eq (.index (.var 1) (.var 3)) (.index (.var 2) (.var 4))) [.list (tbl old new), .list (old.map .str), .list (new.map .str), .int i, .int k] = some (.bool (decide (old[i] = new[k]))) :=
      e_cmp (e_index (e_var rfl) (e_var rfl) (idx_nat (d := .str old[i]) (by simp [hi']))) (e_index (e_var rfl) (e_var rfl) (idx_nat (d := .str new[k]) (by simp [hk']))) (cmp_eq_str _ _)
    by_cases e : old[i] = new[k]
    · rw [if_pos e] at hs
      refine seq_ret (s_true (by rw [hcmp]; simp [e]) (seq_ret (s_ret (e_index (e_index (y := .int ((i + 1 : Nat) : Int)) (e_var rfl) (by simp [evalC, binop]) (tbl_at (by omega))) (y := .int ((k + 1 : Nat) : Int)) (by simp [evalC, binop]) ?_))))
      rw [row_at (by omega), hs]
    · rw [if_neg e] at hs
      refine seq_next (s_false (by rw [hcmp]; simp [e]) seq_nil) ?_
      refine seq_ret (s_ret (e_bin e_const (e_fn2 (e_index (e_index (y := .int ((i + 1 : Nat) : Int)) (e_var rfl) (by simp [evalC, binop]) (tbl_at (by omega))) (e_var rfl) (row_at (by omega))) (e_index (e_index (e_var rfl) (e_var rfl) (tbl_at (by omega))) (y := .int ((k + 1 : Nat) : Int)) (by simp [evalC, binop]) (row_at (by omega))) (min_int _ _)) ?_))
      rw [hs]; rfl
theorem pure06 (ns : List Int) : callC P 1000 10 17 [.list (ns.map .int)] = some (.bool true) := by
  rw [call_f (F := f17) rfl]
  refine run_ret rfl ?_
  show execCs _ _ _ f17.body [.list (ns.map .int), .none, .none, .none, .none, .none, .none, .none, .none] = _
  obtain ⟨ps, hps, htot, hway⟩ := t_way (fuel := 1000) (n := 5) ns 10 (by omega)
  refine seq_next (s_assign (e_call (es_cons (e_var rfl) (es_cons e_const es_nil)) hway) (by simp)) ?_
  refine seq_next (s_assign (e_call (es_cons (e_var rfl) (es_cons e_const es_nil)) (t_side kC ps (by omega))) (by simp)) ?_
  refine seq_next (s_assign (e_call (es_cons (e_var rfl) (es_cons e_const es_nil)) (t_side kP ps (by omega))) (by simp)) ?_
  have ho := sideW_len kC ps
  have hn := sideW_len kP ps
  have hoo := sideW_ok (k := kC) hps
  have hno := sideW_ok (k := kP) hps
  generalize sideW kC ps = old at *
  generalize sideW kP ps = new at *
  refine seq_next (s_assign (e_list (es_cons (e_fn1 (e_var rfl) rfl) (es_cons (e_fn1 (e_var rfl) rfl) es_nil))) (by simp)) ?_
  have i0 : indexOp (.list [.list (old.map .str), .list (new.map .str)]) (.int 0) = some (.list (old.map .str)) := rfl
  have i1 : indexOp (.list [.list (old.map .str), .list (new.map .str)]) (.int 1) = some (.list (new.map .str)) := rfl
  refine seq_next (s_assign (e_call (es_cons (e_index (e_var rfl) e_const i0) (es_cons (e_index (e_var rfl) e_const i1) es_nil)) (t_table old new hoo hno (by omega) (by omega))) (by simp)) ?_
  have hk := t_kinds (fuel := 1000) (n := 7) old new
  simp only [Int.natCast_add, Int.cast_ofNat_Int] at hk
  refine seq_next (s_false ?_ seq_nil) ?_
  · have hk' : callC P 1000 9 15 [.list (tbl old new), .int (old.length + 1), .int (new.length + 1)] = some (.bool true) := hk
    simp [evalC, evalCs, evalOr, i0, i1, ne_words, asB, fn1, binop, hk']
  obtain ⟨env', he, d1, d2, rfl⟩ := forC_inv (f := fun d env => (bindTo [6] d env).bind (execCs P.globs (callC P 1000 9) 1000 f17_b1))
    (I := fun _ env => ∃ d1 d2, env = [.list (ns.map .int), .list (ps.map stepD), .list (old.map .str), .list (new.map .str), .list [.list (old.map .str), .list (new.map .str)], .list (tbl old new), d1, d2, .none])
    (ds := (List.range (old.length + 1)).map fun (k : Nat) => D.int k)
    (env := [.list (ns.map .int), .list (ps.map stepD), .list (old.map .str), .list (new.map .str), .list [.list (old.map .str), .list (new.map .str)], .list (tbl old new), .none, .none, .none]) 0 (fun i d env hd ⟨d1, d2, he⟩ => by
    subst he
    obtain ⟨j, hj, rfl⟩ := List.mem_map.mp (List.mem_of_getElem? hd)
    have hj' := List.mem_range.mp hj
    obtain ⟨env', he, d3, rfl⟩ := forC_inv (f := fun d env => (bindTo [7] d env).bind (execCs P.globs (callC P 1000 9) 1000 f17_b0))
      (I := fun _ env => ∃ d2, env = [.list (ns.map .int), .list (ps.map stepD), .list (old.map .str), .list (new.map .str), .list [.list (old.map .str), .list (new.map .str)], .list (tbl old new), .int j, d2, .none])
      (ds := (List.range (new.length + 1)).map fun (k : Nat) => D.int k)
      (env := [.list (ns.map .int), .list (ps.map stepD), .list (old.map .str), .list (new.map .str), .list [.list (old.map .str), .list (new.map .str)], .list (tbl old new), .int j, d2, .none]) 0 (fun i d env hd ⟨d2, he⟩ => by
      subst he
      obtain ⟨k, hk, rfl⟩ := List.mem_map.mp (List.mem_of_getElem? hd)
      have hk' := List.mem_range.mp hk
      refine ⟨_, ?_, .int k, rfl⟩
      show execCs P.globs (callC P 1000 9) 1000 f17_b0 [.list (ns.map .int), .list (ps.map stepD), .list (old.map .str), .list (new.map .str), .list [.list (old.map .str), .list (new.map .str)], .list (tbl old new), .int j, .int k, .none] = _
      refine seq_next (s_false (e_cmp (e_index (e_index (e_var rfl) (e_var rfl) (tbl_at (by omega))) (e_var rfl) (row_at (by omega))) (e_call (es_cons (e_var rfl) (es_cons (e_var rfl) (es_cons (e_var rfl) (es_cons (e_var rfl) (es_cons (e_var rfl) es_nil))))) (t_due old new j k (by omega) (by omega))) (by simp [cmpop, shal, D.eq])) seq_nil) seq_nil) ⟨_, rfl⟩
    refine ⟨_, ?_, .int j, d3, rfl⟩
    show execCs P.globs (callC P 1000 9) 1000 f17_b1 [.list (ns.map .int), .list (ps.map stepD), .list (old.map .str), .list (new.map .str), .list [.list (old.map .str), .list (new.map .str)], .list (tbl old new), .int j, d2, .none] = _
    exact seq_next (s_for (its_range1 (n := new.length + 1) (by simp [evalC, fn1, binop]) (by omega)) he) seq_nil) ⟨_, _, rfl⟩
  refine seq_next (s_for (its_range1 (n := old.length + 1) (by simp [evalC, fn1, binop]) (by omega)) he) ?_
  refine seq_next (s_assign (e_call (es_cons (e_index (e_var rfl) e_const i0) (es_cons (e_index (e_var rfl) e_const i1) es_nil)) (t_apart old new hoo hno (by omega) (by omega))) (by simp)) ?_
  refine seq_ret (s_ret ?_)
  have r0 : indexOp (.list (tbl old new)) (.int 0) = some (.list (tblRow old new 0)) := tbl_at (i := 0) (Nat.zero_le _)
  have r1 : indexOp (.list (tblRow old new 0)) (.int 0) = some (.int (costF old new)) := row_at (i := 0) (k := 0) (Nat.zero_le _)
  have hw := t_whole (fuel := 1000) (n := 8) (costF old new)
  exact and_t (e_call (es_cons (e_var rfl) es_nil) hw) (and_t (e_cmp (e_var rfl) (e_index (e_index (e_var rfl) e_const r0) e_const r1) (by rw [cmp_eq_int]; simp)) (and_t (e_cmp (e_index (e_var rfl) e_const i0) (e_var rfl) (eq_words _)) (and_1 (e_cmp (e_index (e_var rfl) e_const i1) (e_var rfl) (eq_words _)))))

end Mine

namespace Mine
open PySem PySem.W PyProof.Rows
noncomputable def fnN : List PySem.Str := ["is_sign", "is_word", "need_words", "reckoned", "table", "apart", "_law_cell_at", "_law_sign_by", "_law_word_by", "_law_near", "_law_menu", "_law_step", "_law_way", "_law_side", "_law_whole", "_law_kinds", "_law_due", "law"]
noncomputable def glN : List PySem.Str := ["LONGEST", "MOST"]
noncomputable def nmN : List (List PySem.Str) := [["sign"], ["thing", "sign"], ["words", "word"], ["old", "new", "rows", "i", "under", "row", "k"], ["old", "new"], ["old", "new"], ["_law_script", "_law_k"], ["_law_cell", "_law_some"], ["_law_cell", "_law_more", "_law_size"], ["_law_word", "_law_cell", "_law_at"], ["_law_script", "_law_base"], ["_law_menu_here", "_law_cell", "_law_kind", "_law_size"], ["_law_script", "_law_many", "_law_menu_here", "_law_steps", "_law_front"], ["_law_steps", "_law_kind", "_law_found", "_law_step_here"], ["_law_found"], ["_law_found", "_law_rows", "_law_columns", "_law_row"], ["_law_found", "_law_old", "_law_new", "_law_i", "_law_k"], ["_law_script", "_law_steps", "_law_old", "_law_new", "_law_handed", "_law_found", "_law_i", "_law_k", "_law_far"]]
end Mine
open Mine
open PySem PySem.W PyProof.Rows
set_option Elab.async false
set_option maxRecDepth 100000 in
set_option maxHeartbeats 8000000 in
theorem PySem.Challenge.cw_uf030020_06_holds : PySem.Challenge.rw_uf030020_06.Holds := by
  w_on; o_law; o_head Hook.none; (case hw => w_witness2)
  intro w s₀ s₁ mg mb G Y fa o pm cd doc dV kV ho hd hcd hD hmg hg args vals as hpre hlay hrd hwl hlo
  clear ho hd hcd hD Y
  have T := G.T
  clear G
  wrow_args hpre hlay hrd hwl hlo
  rename_i ns _ _ _ _ _ _ _ a _ _ _ _ w1 _ _ _ hlen _
  have hlen' : ns.length ≤ 63 := by omega
  refine wpAny_mono (law_call (fn := fnN) (gl := glN) (P := P) (nms := nmN) (LAW := 17) (x := "law") (lvl := 10) (fuel := 1000) T ?chk ?dct rfl hmg (by decide) w1 hlen' (pure06 ns)) (fun v s' p => ?_) fun _ _ q => q
  case chk => decide +kernel
  case dct =>
    intro i x d hx hG hd
    match i, hG with
    | 0, hG => cases hG; cases hd
    | 1, hG => cases hG; cases hd
    | n + 2, hG => cases hG
  · obtain ⟨rfl, h', tk, rfl, g⟩ := p
    refine PySem.W.GoodW.toG ⟨.inl ⟨.bool true, .bool true, [], rfl, fun _ => rfl, .bool _, ?_, fun _ => ⟨List.nodup_nil, fun _ q => nomatch q⟩⟩, g, rfl, hg⟩
    wrow_post

