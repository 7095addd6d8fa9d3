import PyProof.Rows.All
import Wide.All
import OpenK.AllK
import Wide.FinOn
import PySem.Challenge.RW_breadward_k37_whole_points_of_the_bakeho
import HandS.Head0
import HandS.Head1
import HandS.Head2
import HandS.HeadEnd
import HandS.HeadHook1
import HandS.HeadHook2
import HandS.EndTab
import KE.KNestM
import HandS.Head3
import PySem.Syntax
import KE.KStateDown
import HandS.Base
import HandS.Call
import HandS.Ends
import HandS.More
import HandS.Words
import HandS.WordsExc
import HandS.Defaults
import HandS.AnyAll
import KE.SortData
import KE.DataMinMax
import KE.DataFind
import KE.DataAny
import KE.DataCmp
import KE.DataEq
import HandS.TupAny
import HandS.TupMul
import HandS.TupLe
import HandS.Text
import HandS.Style
import HandS.Dict
import HandS.Flow
import HandS.Codes
import HandS.Comp
import HandS.IsInst
import HandS.Gcd
import KE.KTupSum
import HandS.ReCall
import PyProof.SeqIndex
import HandS.Iter
import HandS.Zip
import HandS.Rev
import KE.GoesNew
import KE.GoesMore
import HandS.Conv
import HandS.DictComp
import PyProof.GenQ
import HandS.GenList
import HandS.GenOver
import HandS.RepeatKit
import HandS.Keys
import PySem.Eval
set_option Elab.async false
set_option linter.all false
set_option maxRecDepth 100000
set_option maxHeartbeats 0
/-! Rg7: what the top leaves: each def, its code and its table, by one look. -/
namespace Rf
open PySem PySem.Spec PyProof.Rows L2 PySem.W
open HandSHeadRun (frNat frNat_eq)
abbrev Pl := Addr × Addr × Addr
def codA (o : Option Obj) : Addr := match o with
  | some ⟨_, _, .func fd, _⟩ => (match fd.code with
    | .ref c => c
    | _ => 0)
  | _ => 0
def tabA (o : Option Obj) : Addr := match o with
  | some ⟨_, _, .fields vs, _⟩ => (match (vs[11]? : Option Value) with
    | some (.ref P) => P
    | _ => 0)
  | _ => 0
/-- where the defs stand, each number in full -/
def plK {α : Type} (g : Addr → Option Obj) (K0 : Frag) : List Str → (List Pl → α) → α
  | [], k => k []
  | x :: r, k => frNat (He.ga K0 x) fun f => frNat (codA (g f)) fun c => frNat (tabA (g c)) fun t => plK g K0 r fun l => k ((f, c, t) :: l)
def plL (g : Addr → Option Obj) (K0 : Frag) : List Str → List Pl
  | [] => []
  | x :: r => (He.ga K0 x, codA (g (He.ga K0 x)), tabA (g (codA (g (He.ga K0 x))))) :: plL g K0 r
theorem plK_eq {α : Type} (g : Addr → Option Obj) (K0 : Frag) : ∀ (xs : List Str) (k : List Pl → α), plK g K0 xs k = k (plL g K0 xs)
  | [], k => rfl
  | x :: r, k => by
    show frNat (He.ga K0 x) (fun f => frNat (codA (g f)) fun c => frNat (tabA (g c)) fun t => plK g K0 r fun l => k ((f, c, t) :: l)) = _
    rw [frNat_eq, frNat_eq, frNat_eq, plK_eq g K0 r]
    rfl
def isTab (o : Option Obj) : Bool := match o with
  | some ⟨.none, none, .fields ⟨[]⟩, ⟨[]⟩⟩ => true
  | _ => false
theorem isTab_ok {o : Option Obj} (h : isTab o = true) : o = some (tabObj #[]) := by
  unfold isTab at h
  split at h
  · rfl
  · cases h
def fnV (K : Frag) (f : Addr) : He.FnW := match K.lookup f with
  | some ⟨_, _, .func fd, _⟩ => some (fd.name, fd.qualname, fd.params, fd.body, fd.scope, fd.globals, fd.closure, fd.builtins)
  | _ => none
def isNoneV : Value → Bool
  | .none => true
  | _ => false
def isRefV (c : Addr) : Value → Bool
  | .ref a => Nat.beq a c
  | _ => false
/-- one def -/
def dOk (K0 K : Frag) (g : Addr → Option Obj) (x : Str) (p : Pl) : Bool :=
  He.eqO (nsIn K0 mainGlobals x) (some (some (.ref p.1))) && (match K.lookup p.1 with
    | some ⟨_, _, .func fd, _⟩ => isRefV p.2.1 fd.code && isNoneV fd.defaults
    | _ => false) && codeIn K (.ref p.2.1) x && codeHdIn K p.2.1 p.2.2 && (K.lookup p.2.2).isNone && isTab (g p.2.2)
def allD (K0 K : Frag) (g : Addr → Option Obj) : List Str → List Pl → Bool
  | [], [] => true
  | x :: xs, p :: ps => dOk K0 K g x p && allD K0 K g xs ps
  | _, _ => false
/-- the module's other names -/
def okV (K0 : Frag) (p : Str × Option Value) : Bool := He.eqO (nsIn K0 mainGlobals p.1) (some p.2)
def frOf (g : Addr → Option Obj) (l : List Pl) : Frag := He.frG g (l.flatMap fun p => [p.1, p.2.1])
def fr0 (g : Addr → Option Obj) : Frag := He.frG g [mainGlobals]
def lookAt (vs : List (Str × Option Value)) (xs : List Str) (g : Addr → Option Obj) (l : List Pl) : He.AlD :=
  (vs.all (okV (fr0 g)) && allD (fr0 g) (frOf g l) g xs l, l.map fun p => fnV (frOf g l) p.1)
def obsT (vs : List (Str × Option Value)) (xs : List Str) (g : Addr → Option Obj) : He.AlD := plK g (fr0 g) xs (lookAt vs xs g)
/-- what is known of the heap -/
structure SaysT (vs : List (Str × Option Value)) (fn : List He.DefD) (h : Heap) (K0 K : Frag) (l : List Pl) : Prop where
  k0 : K0.In h
  k : K.In h
  vals : ∀ p ∈ vs, nsIn K0 mainGlobals p.1 = some p.2
  len : l.length = fn.length
  def_ : ∀ (i : Nat) (d : He.DefD), fn[i]? = some d → ∃ p, l[i]? = some p ∧ nsIn K0 mainGlobals d.name = some (some (.ref p.1)) ∧ fnV K p.1 = d.val ∧ (∃ oc od fd osl, K.lookup p.1 = some ⟨oc, od, .func fd, osl⟩ ∧ fd.code = .ref p.2.1 ∧ fd.defaults = .none) ∧
    codeIn K (.ref p.2.1) d.name = true ∧ codeHdIn K p.2.1 p.2.2 = true ∧ K.lookup p.2.2 = none ∧ h.get? p.2.2 = some (tabObj #[])
theorem allD_at {K0 K : Frag} {g : Addr → Option Obj} : ∀ {xs : List Str} {ps : List Pl}, allD K0 K g xs ps = true → ps.length = xs.length ∧ ∀ (i : Nat) (x : Str), xs[i]? = some x → ∃ p, ps[i]? = some p ∧ dOk K0 K g x p = true
  | [], [], _ => ⟨rfl, fun i x h => by simp at h⟩
  | [], _ :: _, h => by cases h
  | _ :: _, [], h => by cases h
  | x :: xs, p :: ps, h => by
    rw [allD, Bool.and_eq_true] at h
    obtain ⟨h1, h2⟩ := allD_at h.2
    refine ⟨by simp [h1], fun i y hy => ?_⟩
    cases i with
    | zero => simp at hy; subst hy; exact ⟨p, rfl, h.1⟩
    | succ i => simpa using h2 i y (by simpa using hy)
theorem dOk_ok {K0 K : Frag} {g : Addr → Option Obj} {x : Str} {p : Pl} (h : dOk K0 K g x p = true) : nsIn K0 mainGlobals x = some (some (.ref p.1)) ∧ (∃ oc od fd osl, K.lookup p.1 = some ⟨oc, od, .func fd, osl⟩ ∧ fd.code = .ref p.2.1 ∧ fd.defaults = .none) ∧
    codeIn K (.ref p.2.1) x = true ∧ codeHdIn K p.2.1 p.2.2 = true ∧ K.lookup p.2.2 = none ∧ g p.2.2 = some (tabObj #[]) := by
  unfold dOk at h
  simp only [Bool.and_eq_true] at h
  obtain ⟨⟨⟨⟨⟨h1, h2⟩, h3⟩, h4⟩, h5⟩, h6⟩ := h
  refine ⟨He.eqO_ok h1, ?_, h3, h4, Option.isNone_iff_eq_none.mp h5, isTab_ok h6⟩
  split at h2
  · rename_i oc od fd osl e
    rw [Bool.and_eq_true] at h2
    refine ⟨oc, od, fd, osl, e, ?_, ?_⟩
    · cases hc : fd.code with
      | ref a => rw [hc] at h2; rw [Nat.eq_of_beq_eq_true (show Nat.beq a p.2.1 = true from h2.1)]
      | _ => rw [hc] at h2; cases h2.1
    · cases hc : fd.defaults with
      | none => rfl
      | _ => rw [hc] at h2; cases h2.2
  · cases h2
theorem says_of {vs : List (Str × Option Value)} {fn : List He.DefD} {h : Heap} (e : obsT vs (fn.map (·.name)) h.get? = He.valD fn) : ∃ K0 K l, SaysT vs fn h K0 K l := by
  unfold obsT at e
  rw [plK_eq] at e
  generalize plL h.get? (fr0 h.get?) (fn.map (·.name)) = l at e
  obtain ⟨e1, e2⟩ := Prod.mk.inj (show (_, _) = (true, fn.map He.DefD.val) from e)
  rw [Bool.and_eq_true] at e1
  obtain ⟨a1, a2⟩ := allD_at e1.2
  refine ⟨fr0 h.get?, frOf h.get? l, l, He.frG_in, He.frG_in, fun p hp => He.eqO_ok (List.all_eq_true.mp e1.1 p hp), by rw [a1, List.length_map], fun i d hd => ?_⟩
  obtain ⟨p, hp, ok⟩ := a2 i d.name (by rw [List.getElem?_map, hd]; rfl)
  obtain ⟨h1, h2, h3, h4, h5, h6⟩ := dOk_ok ok
  refine ⟨p, hp, h1, ?_, h2, h3, h4, h5, h6⟩
  have : (l.map fun p => fnV (frOf h.get? l) p.1)[i]? = (fn.map He.DefD.val)[i]? := by rw [e2]
  rw [List.getElem?_map, List.getElem?_map, hp, hd] at this
  exact Option.some.inj this
theorem SaysT.keeps {vs : List (Str × Option Value)} {fn : List He.DefD} {h h' : Heap} {K0 K : Frag} {l : List Pl} (S : SaysT vs fn h K0 K l) (k : ∀ b o, h.get? b = some o → h'.get? b = some o) : SaysT vs fn h' K0 K l :=
  ⟨S.k0.keeps k, S.k.keeps k, S.vals, S.len, fun i d hd => by
    obtain ⟨p, h1, h2, h3, h4, h5, h6, h7, h8⟩ := S.def_ i d hd
    exact ⟨p, h1, h2, h3, h4, h5, h6, h7, k _ _ h8⟩⟩
def hookT (vs : List (Str × Option Value)) (fn : List He.DefD) : Hook where
  α := He.AlD
  obs := fun s => obsT vs (fn.map (·.name)) s.heap.get?
  val := fun _ => He.valD fn
  says := fun _ h => ∃ K0 K l, SaysT vs fn h K0 K l
  of := fun _ _ e => says_of e
  keeps := fun _ _ _ ⟨K0, K, l, S⟩ k => ⟨K0, K, l, S.keeps k⟩
theorem obsT_eq {vs : List (Str × Option Value)} {fn : List He.DefD} {g : Addr → Option Obj} {s : Shared} (h : ∀ a, g a = s.heap.get? a) : obsT vs (fn.map (·.name)) g = (hookT vs fn).obs s := by
  have e : g = s.heap.get? := funext h
  rw [e]
  rfl
end Rf
namespace T
open PySem PySem.Spec PyProof.Rows L2 PySem.W Rf
def dOf : Stmt → Option He.DefD
  | .FunctionDef n a b _ _ _ sc _ _ _ => some ⟨(n, none), n, n, a, b, sc, [], []⟩
  | _ => none
def top : List Stmt := PySem.Challenge.pw_breadward_k37_whole_points_of_the_bakeho.main.body
def fn : List He.DefD := top.filterMap dOf
def vs : List (Str × Option Value) := [("len", none), ("abs", none), ("int", none), ("sum", none), ("min", none), ("max", none), ("sorted", none), ("tuple", none), ("list", none), ("all", none), ("any", none), ("range", none), ("enumerate", none), ("zip", none), ("isinstance", none), ("bool", none), ("str", none), ("reversed", none), ("set", none), ("combinations", some (.type "itertools.combinations")), ("gcd", some (.builtin "math.gcd"))]
abbrev R : PySem.W.OpenRow := PySem.W.OpenLaw.row PySem.Challenge.rw_breadward_k37_whole_points_of_the_bakeho
abbrev hk : PySem.W.Hook := hookT vs fn
def ob (s : PySem.W.SharedT) : He.AlD := obsT vs (fn.map (·.name)) (HandSHeadRun.getT s)
theorem ob_eq (s : PySem.W.SharedT) : ob s = hk.obs s.abs := obsT_eq (HandSHeadRun.getT_eq s)
def nmOf : Stmt → List PySem.Str
  | .FunctionDef n _ _ _ _ _ _ _ _ _ => if n = "law" then [] else [n]
  | _ => []
def loose : List PySem.Str := top.flatMap nmOf
theorem run (w : World) : HandSHeadRun.RunEqI R (PySem.W.view R.prog [0, 1, 104]) hk ob 30000 loose w := by
  unfold HandSHeadRun.RunEqI
  kernel_rfl
end T
/-! Rf0: plain data, the small language and its evaluator (no program in sight). -/
namespace Rf
/-- plain data: what never changes; a tuple's k: it is known to have no dict of its own (and is no key) -/
inductive D where
  | non | bl (b : Bool) | int (i : Int) | str (s : List Nat) | tup (k : Bool) (ds : List D) | lst (ds : List D) | dct (ks vs : List D)
  deriving Inhabited, Repr
/-- a value of a slot: data, an object of the store, not assigned -/
inductive W where
  | d (x : D) | ref (n : Nat) | un
  deriving Inhabited, Repr
inductive Ob where
  | lst (ds : List D) | dct (ks vs : List D) | dead
  deriving Inhabited, Repr
abbrev Env := List W
abbrev St := List Ob
/-! ### equality, order -/
def nats : List Nat → List Nat → Bool
  | [], [] => true
  | a :: r, b :: t => Nat.beq a b && nats r t
  | _, _ => false
def ieq : Int → Int → Bool
  | .ofNat a, .ofNat b => Nat.beq a b
  | .negSucc a, .negSucc b => Nat.beq a b
  | _, _ => false
def ilt : Int → Int → Bool
  | .ofNat a, .ofNat b => Nat.blt a b
  | .ofNat _, .negSucc _ => false
  | .negSucc _, .ofNat _ => true
  | .negSucc a, .negSucc b => Nat.blt b a
def b2i : Bool → Int
  | true => 1
  | false => 0
/-- a truth value, or no answer -/
inductive T3 where
  | y | n | bad
  deriving DecidableEq, Repr
def T3.of : Bool → T3
  | true => .y
  | false => .n
mutual
/-- == of data without dicts -/
def deqB : D → D → Bool
  | .non, b => (match b with | .non => true | _ => false)
  | .bl x, b => (match b with | .bl y => (x == y) | .int j => ieq (b2i x) j | _ => false)
  | .int i, b => (match b with | .int j => ieq i j | .bl y => ieq i (b2i y) | _ => false)
  | .str x, b => (match b with | .str y => nats x y | _ => false)
  | .tup _ xs, b => (match b with | .tup _ ys => deqBs xs ys | _ => false)
  | .lst xs, b => (match b with | .lst ys => deqBs xs ys | _ => false)
  | .dct _ _, _ => false
def deqBs : List D → List D → Bool
  | [], ys => (match ys with | [] => true | _ :: _ => false)
  | x :: xs, ys => (match ys with | [] => false | y :: ys' => deqB x y && deqBs xs ys')
end
mutual
/-- no dict within, of a depth of at most n -/
def okN : D → Nat → Bool
  | .tup _ ds, n => (match n with | 0 => false | m + 1 => okNs ds m)
  | .lst ds, n => (match n with | 0 => false | m + 1 => okNs ds m)
  | .dct _ _, _ => false
  | .non, _ => true
  | .bl _, _ => true
  | .int _, _ => true
  | .str _, _ => true
def okNs : List D → Nat → Bool
  | [], _ => true
  | d :: ds, n => okN d n && okNs ds n
end
def eqF (a b : D) : T3 := match okN a 60 && okN b 60 with
  | true => .of (deqB a b)
  | false => .bad
/-- strictly ahead, as rows of numbers -/
def natsLt : List Nat → List Nat → Bool
  | [], ys => (match ys with | [] => false | _ :: _ => true)
  | x :: xs, ys => (match ys with
    | [] => false
    | y :: ys' => (match Nat.blt x y with
      | true => true
      | false => (match Nat.beq x y with
        | true => natsLt xs ys'
        | false => false)))
mutual
/-- the two can be compared -/
def alk : D → D → Bool
  | .non, b => (match b with | .non => true | _ => false)
  | .bl _, b => (match b with | .bl _ => true | _ => false)
  | .int _, b => (match b with | .int _ => true | _ => false)
  | .str _, b => (match b with | .str _ => true | _ => false)
  | .tup _ xs, b => (match b with | .tup _ ys => alks xs ys | _ => false)
  | .lst xs, b => (match b with | .lst ys => alks xs ys | _ => false)
  | .dct _ _, _ => false
def alks : List D → List D → Bool
  | [], _ => true
  | x :: xs, ys => (match ys with | [] => true | y :: ys' => alk x y && alks xs ys')
end
mutual
/-- < of alike data -/
def dlt : D → D → Bool
  | .bl x, b => (match b with | .bl y => ilt (b2i x) (b2i y) | _ => false)
  | .int i, b => (match b with | .int j => ilt i j | _ => false)
  | .str x, b => (match b with | .str y => natsLt x y | _ => false)
  | .tup _ xs, b => (match b with | .tup _ ys => dlts xs ys | _ => false)
  | .lst xs, b => (match b with | .lst ys => dlts xs ys | _ => false)
  | .non, _ => false
  | .dct _ _, _ => false
def dlts : List D → List D → Bool
  | [], ys => (match ys with | [] => false | _ :: _ => true)
  | x :: xs, ys => (match ys with
    | [] => false
    | y :: ys' => (match deqB x y with
      | true => dlts xs ys'
      | false => dlt x y))
end
def isNon : D → Bool
  | .non => true
  | _ => false
/-- a < b -/
def ltF (a b : D) : T3 := match okN a 60 && okN b 60 && alk a b && !isNon a with
  | true => .of (dlt a b)
  | false => .bad
def isI : D → Bool
  | .int _ => true
  | _ => false
def isTI : D → Bool
  | .tup false ds => ds.all isI
  | _ => false
mutual
/-- no tuple within that is known to have no dict -/
def nfl : D → Bool
  | .tup k ds => !k && nfls ds
  | .lst ds => nfls ds
  | .dct _ _ => false
  | .non => true
  | .bl _ => true
  | .int _ => true
  | .str _ => true
def nfls : List D → Bool
  | [] => true
  | d :: ds => nfl d && nfls ds
end
def alkP : List D → Bool
  | [] => true
  | x :: r => alk x x && r.all (fun y => alk x y && alk y x) && alkP r
/-- all can be compared with each other, none is None -/
def noTop : D → Bool
  | .lst _ => false
  | .dct _ _ => false
  | _ => true
def alkAll (ds : List D) : Bool := ds.all isI || ds.all isTI || (okNs ds 60 && nfls ds && alkP ds && ds.all fun d => !isNon d)
def isTup1 : D → Bool
  | .tup _ (_ :: _) => true
  | _ => false
def isTupA : D → Bool
  | .tup _ _ => true
  | _ => false
/-- what may be sorted -/
def sortOk (ds : List D) : Bool := Nat.ble ds.length 100000 && alkAll ds && (ds.all isTup1 || ds.all fun d => !isTupA d)
/-! ### the language -/
inductive BOp where
  | add | sub | mul | fdiv | mod | pow
  deriving DecidableEq, Repr
inductive COp where
  | eq | ne | lt | le | gt | ge | is | isnot | isin | notin
  deriving DecidableEq, Repr
/-- built-in functions of values -/
inductive Prim where
  | len | abs | int | sum | min1 | max1 | min2 | max2 | minD | maxD | sorted | sortedR | tuple | list | gcd
  | isInt | isBool | isStr | isTup | all1 | any1 | join | index | count | starts | ends
  | lenSet | sortedSet
  deriving DecidableEq, Repr
/-- targets -/
inductive T where
  | nm (i : Nat) | tp (ts : List T)
  deriving Repr
inductive E where
  | lit (d : D)
  | var (i : Nat)
  | tup (k : Bool) (es : List E)
  | lst (box : Bool) (es : List E)
  | dct (box : Bool) (kvs : List E)
  | bin (op : BOp) (box : Bool) (a b : E)
  | neg (a : E)
  | cmp (op : COp) (a b : E)
  | chain (op op' : COp) (a b c : E)
  | chain3 (op op' op'' : COp) (a b c d : E)
  | and_ (a b : E) | or_ (a b : E) | not_ (a : E) | tru (a : E)
  | ite (c a b : E)
  | ix (a b : E)
  | slc (box : Bool) (a : E) (lo hi : Option E)
  | slr (box : Bool) (a : E) (hi : Option E)
  | prim (p : Prim) (box : Bool) (es : List E)
  | meth (p : Prim) (a b : E)
  | dget (d k dflt : E)
  | pop1 (i : Nat) | popAt (i : Nat) (k : E)
  | push (i : Nat) (e : E) | extend (i : Nat) (e : E)
  | call (f : Nat) (es : List E)
  | callr (f : Nat) (i : Nat) (es : List E)
  -- without the store: md: lists of the store are seen as they stand (the answer must have no list within); else they are not seen
  | pur (md box : Bool) (e : E)
  | ofIt (tup box : Bool) (it : E)
  | comp (elt : E) (own : List Nat) (t : T) (it : E) (ifs : List E)
  | comp2 (elt : E) (own own2 : List Nat) (t : T) (it : E) (ifs : List E) (t2 : T) (it2 : E) (ifs2 : List E)
  | dcomp (k v : E) (own : List Nat) (t : T) (it : E) (ifs : List E)
  | all_ (elt : E) (own : List Nat) (t : T) (it : E) (ifs : List E)
  | any_ (elt : E) (own : List Nat) (t : T) (it : E) (ifs : List E)
  | all2 (elt : E) (own own2 : List Nat) (t : T) (it : E) (ifs : List E) (t2 : T) (it2 : E) (ifs2 : List E)
  | any2 (elt : E) (own own2 : List Nat) (t : T) (it : E) (ifs : List E) (t2 : T) (it2 : E) (ifs2 : List E)
  -- what is walked
  | walk (a : E)
  | rng1 (a : E) | rng2 (a b : E) | rng3 (a b c : E)
  | enum (a : E) | zip (a b : E) | zip3 (a b c : E) | revd (a : E) | items (a : E) | keys (a : E) | vals (a : E)
  | combs (a k : E) | perms (a : E) | permsK (a k : E)
  deriving Repr
inductive S where
  | asg (t : T) (e : E)
  | par (is : List Nat) (es : List E)
  | setI (a : Nat) (i e : E)
  | set2 (a : Nat) (i : E) (b : Nat) (j : E) (e f : E)
  | aug (op : BOp) (i : Nat) (e : E)
  | augI (op : BOp) (a : Nat) (i e : E)
  | pushI (a : Nat) (i e : E)
  | ex (e : E)
  | ret (e : E)
  | ifs (c : E) (a b : List S)
  | for_ (t : T) (it : E) (b : List S)
  | while_ (c : E) (b : List S)
  | brk | cont | pass
  deriving Repr
inductive Fl where
  | nx | brk | cont | ret (x : D)
/-! ### small helpers -/
def getE : Env → Nat → W
  | [], _ => .un
  | w :: _, 0 => w
  | _ :: r, i + 1 => getE r i
def setE : Env → Nat → W → Env
  | [], _, _ => []
  | _ :: r, 0, w => w :: r
  | v :: r, i + 1, w => v :: setE r i w
def wipeE (env : Env) : List Nat → Env
  | [] => env
  | v :: vs => setE (wipeE env vs) v .un
def getO : St → Nat → Ob
  | [], _ => .dead
  | w :: _, 0 => w
  | _ :: r, i + 1 => getO r i
def setO : St → Nat → Ob → St
  | [], _, _ => []
  | _ :: r, 0, w => w :: r
  | v :: r, i + 1, w => v :: setO r i w
/-- what a value is, as data; a list of the store as it stands -/
def view (st : St) : W → Option D
  | .d x => some x
  | .ref n => (match getO st n with
    | .lst ds => some (.lst ds)
    | .dct ks vs => some (.dct ks vs)
    | .dead => none)
  | .un => none
def views (st : St) : List W → Option (List D)
  | [] => some []
  | w :: r => (match view st w with
    | some d => (match views st r with
      | some ds => some (d :: ds)
      | none => none)
    | none => none)
/-- a value to be kept in data: an object of the store is kept as it stands and can't be used any more -/
def freeze (st : St) : W → Option (D × St)
  | .d x => some (x, st)
  | .ref n => (match getO st n with
    | .lst ds => some (.lst ds, setO st n .dead)
    | .dct ks vs => some (.dct ks vs, setO st n .dead)
    | .dead => none)
  | .un => none
def ixN (n : Nat) : Int → Option Nat
  | .ofNat k => (match Nat.blt k n with | true => some k | false => none)
  | .negSucc k => (match Nat.blt k n with | true => some (n - (k + 1)) | false => none)
def nth {α : Type} : List α → Nat → Option α
  | [], _ => none
  | x :: _, 0 => some x
  | _ :: r, i + 1 => nth r i
def atD (ds : List D) (i : Int) : Option D := match ixN ds.length i with
  | some k => nth ds k
  | none => none
def setL : List D → Nat → D → List D
  | [], _, _ => []
  | _ :: r, 0, w => w :: r
  | v :: r, i + 1, w => v :: setL r i w
/-- a slice's bound -/
def sIx (n : Nat) (dflt : Nat) : Option Int → Nat
  | none => dflt
  | some (.ofNat k) => (match Nat.ble k n with | true => k | false => n)
  | some (.negSucc k) => n - (k + 1)
def cut {α : Type} (xs : List α) (lo hi : Option Int) : List α := (xs.drop (sIx xs.length 0 lo)).take (sIx xs.length xs.length hi - sIx xs.length 0 lo)
def rep {α : Type} (xs : List α) : Nat → List α
  | 0 => []
  | n + 1 => xs ++ rep xs n
/-- a written bound, None is none -/
def bnd : D → Option (Option Int)
  | .int i => some (some i)
  | .non => some none
  | _ => none
def small (i : Int) : Bool := Nat.blt i.natAbs 4611686018427387904
def mulOk (i j : Int) : Bool := Nat.blt i.natAbs 18446744073709551616 || Nat.blt j.natAbs 18446744073709551616
def pos30 (j : Int) : Bool := match j with
  | .ofNat k => Nat.blt 0 k && Nat.blt k 1073741824
  | .negSucc _ => false
def isPos (j : Int) : Bool := match j with
  | .ofNat k => Nat.blt 0 k
  | .negSucc _ => false
def MAXL : Nat := 100000
def lenOk {α : Type} (xs : List α) : Bool := Nat.ble xs.length MAXL
def notNil {α : Type} : List α → Bool
  | [] => false
  | _ :: _ => true
def truth : D → Option Bool
  | .non => some false
  | .bl b => some b
  | .int i => some (!(ieq i 0))
  | .str s => (match lenOk s with | true => some (notNil s) | false => none)
  | .tup _ s => some (notNil s)
  | .lst s => some (notNil s)
  | .dct _ _ => none
/-- a result: data, or a new list -/
inductive PR where
  | d (x : D) | fresh (ds : List D)
def repTOk (a : List D) (j : Int) : Bool := notNil a && Nat.ble a.length 1000 && Nat.ble 2 j.toNat && Nat.ble j.toNat 1000
def powOk (i j : Int) : Bool := Nat.blt i.natAbs 18446744073709551616 && (match j with | .ofNat k => Nat.ble k 1000000 | .negSucc _ => false)
/-- t + u: where one is empty, the other one itself -/
def catT (ka : Bool) (a : List D) (kb : Bool) (b : List D) : D := match a, b with
  | [], _ => .tup kb b
  | _ :: _, [] => .tup ka a
  | _ :: _, _ :: _ => .tup false (a ++ b)
/-- t[lo:hi]: the whole is t itself -/
def cutT (k : Bool) (ds : List D) (lo hi : Option Int) : D := match Nat.beq (sIx ds.length 0 lo) 0 && Nat.beq (sIx ds.length ds.length hi) ds.length with
  | true => .tup k ds
  | false => .tup false (cut ds lo hi)
def binop (op : BOp) (x y : D) : Option PR :=
  match op with
  | .add => (match x, y with
    | .int i, .int j => some (.d (.int (i + j)))
    | .int i, .bl j => some (.d (.int (i + b2i j)))
    | .str a, .str b => (match lenOk (a ++ b) with | true => some (.d (.str (a ++ b))) | false => none)
    | .tup ka a, .tup kb b => (match lenOk (a ++ b) with | true => some (.d (catT ka a kb b)) | false => none)
    | .lst a, .lst b => (match lenOk (a ++ b) with | true => some (.fresh (a ++ b)) | false => none)
    | _, _ => none)
  | .sub => (match x, y with
    | .int i, .int j => some (.d (.int (i - j)))
    | _, _ => none)
  | .mul => (match x, y with
    | .int i, .int j => (match mulOk i j with | true => some (.d (.int (i * j))) | false => none)
    | .lst a, .int j => (match Nat.ble (a.length * j.toNat) MAXL && small j with | true => some (.fresh (rep a j.toNat)) | false => none)
    | .str a, .int j => (match Nat.ble a.length 1000 && Nat.ble j.natAbs 1000 with | true => some (.d (.str (rep a j.toNat))) | false => none)
    | .tup _ a, .int j => (match repTOk a j with | true => some (.d (.tup false (rep a j.toNat))) | false => none)
    | _, _ => none)
  | .fdiv => (match x, y with
    | .int i, .int j => (match pos30 j with | true => some (.d (.int (i / j))) | false => none)
    | _, _ => none)
  | .mod => (match x, y with
    | .int i, .int j => (match isPos j with | true => some (.d (.int (i % j))) | false => none)
    | _, _ => none)
  | .pow => (match x, y with
    | .int i, .int j => (match powOk i j with | true => some (.d (.int (i ^ j.toNat))) | false => none)
    | _, _ => none)
/-- x op= y -/
def augD (op : BOp) (x y : D) : Option D := match op with
  | .add => (match x, y with
    | .int i, .int j => some (.int (i + j))
    | .str a, .str b => (match lenOk (a ++ b) with | true => some (.str (a ++ b)) | false => none)
    | _, _ => none)
  | .sub => (match x, y with
    | .int i, .int j => some (.int (i - j))
    | _, _ => none)
  | _ => none
/-- an equal item is there -/
def hasEq (x : D) : List D → Bool
  | [] => false
  | y :: r => (match deqB y x with
    | true => true
    | false => hasEq x r)
def anyEq (x : D) (ds : List D) : T3 := match okN x 60 && okNs ds 60 with
  | true => .of (hasEq x ds)
  | false => .bad
/-- the place of the first equal item -/
def idxEq (x : D) : List D → Nat → Option Nat
  | [], _ => none
  | y :: r, i => (match deqB y x with
    | false => idxEq x r (i + 1)
    | true => some i)
def cntEq (x : D) : List D → Nat
  | [] => 0
  | y :: r => (match deqB y x with
    | false => cntEq x r
    | true => cntEq x r + 1)
def isKey : D → Bool
  | .int _ => true
  | .str _ => true
  | _ => false
def isKeyT : D → Bool
  | .tup false ds => ds.all isKey
  | _ => false
def keyOk (ks : List D) (k : D) : Bool := (isKey k && ks.all isKey) || (isKeyT k && ks.all isKeyT)
/-- the value of a key -/
def lookD (k : D) : List D → List D → Option D
  | a :: ks, v :: vs => (match deqB a k with
    | true => some v
    | false => lookD k ks vs)
  | _, _ => none
def hasD (k : D) : List D → Bool
  | a :: ks => (match deqB a k with
    | true => true
    | false => hasD k ks)
  | _ => false
def setD (k v : D) : List D → List D → List D
  | a :: ks, b :: vs => (match deqB a k with
    | true => v :: setD k v ks vs
    | false => b :: setD k v ks vs)
  | _, vs => vs
def putD (k v : D) (ks vs : List D) : List D × List D := match hasD k ks with
  | true => (ks, setD k v ks vs)
  | false => (ks ++ [k], vs ++ [v])
def inop (x y : D) : T3 := match y with
  | .lst ds => anyEq x ds
  | .tup _ ds => anyEq x ds
  | .dct ks _ => (match keyOk ks x with | true => .of (hasD x ks) | false => .bad)
  | .str s => (match x with
    | .str t => (match t with
      | [c] => .of (s.any fun d => Nat.beq d c)
      | _ => .bad)
    | _ => .bad)
  | _ => .bad
def T3.neg : T3 → T3
  | .y => .n
  | .n => .y
  | .bad => .bad
def cmpop (op : COp) (x y : D) : T3 := match op with
  | .eq => eqF x y
  | .ne => (eqF x y).neg
  | .lt => ltF x y
  | .gt => ltF y x
  | .le => (match x, y with | .int i, .int j => .of (!(ilt j i)) | _, _ => .bad)
  | .ge => (match x, y with | .int i, .int j => .of (!(ilt i j)) | _, _ => .bad)
  | .is => (match y with
    | .non => (match x with | .non => .y | _ => .n)
    | .bl b => (match x with | .bl a => .of (a == b) | _ => .bad)
    | _ => .bad)
  | .isnot => (match y with
    | .non => (match x with | .non => .n | _ => .y)
    | .bl b => (match x with | .bl a => .of (!(a == b)) | _ => .bad)
    | _ => .bad)
  | .isin => inop x y
  | .notin => (inop x y).neg
/-! sorting: stable -/
def insD (x : D) : List D → List D
  | [] => [x]
  | y :: r => (match dlt y x with
    | false => x :: y :: r
    | true => y :: insD x r)
def sortD : List D → List D
  | [] => []
  | x :: r => insD x (sortD r)
/-- from the greatest on, equal ones as they stand -/
def insR (x : D) : List D → List D
  | [] => [x]
  | y :: r => (match dlt x y with
    | false => x :: y :: r
    | true => y :: insR x r)
def sortR : List D → List D
  | [] => []
  | x :: r => insR x (sortR r)
def minL (a : D) : List D → D
  | [] => a
  | b :: r => (match dlt b a with
    | true => minL b r
    | false => minL a r)
def maxL (a : D) : List D → D
  | [] => a
  | b :: r => (match dlt a b with
    | true => maxL b r
    | false => maxL a r)
def sumL (a : Int) : List D → Option Int
  | [] => some a
  | .int i :: r => sumL (a + i) r
  | _ => none
def allL : List D → Option Bool
  | [] => some true
  | .bl b :: r => (match allL r with
    | some c => some (b && c)
    | none => none)
  | _ => none
def anyL : List D → Option Bool
  | [] => some false
  | .bl b :: r => (match anyL r with
    | some c => some (b || c)
    | none => none)
  | _ => none
def joinL (sep : List Nat) : List D → Option (List Nat)
  | [] => some []
  | [.str a] => some a
  | .str a :: r => (match joinL sep r with | some t => some (a ++ (sep ++ t)) | none => none)
  | _ => none
def isPre : List Nat → List Nat → Bool
  | [], _ => true
  | a :: r, b :: t => Nat.beq a b && isPre r t
  | _ :: _, [] => false
def cntN (c : Nat) : List Nat → Nat
  | [] => 0
  | a :: r => (match Nat.beq a c with | true => cntN c r + 1 | false => cntN c r)
/-- without repeats, the first of equal ones stays -/
def dedup : List D → List D → Option (List D)
  | [], acc => some acc.reverse
  | x :: r, acc => (match hasEq x acc with
    | true => dedup r acc
    | false => dedup r (x :: acc))
/-- items of which sets are made here: ints alone, or tuples of ints alone -/
def setOk (ds : List D) : Bool := Nat.blt ds.length 64 && (ds.all isI || ds.all isTI)
/-- the receivers of methods -/
inductive Ki where
  | lst | str | tup | no
  deriving DecidableEq
def kindD : D → Ki
  | .lst _ => .lst
  | .str _ => .str
  | .tup true _ => .tup
  | _ => .no
def seqOf : D → Option (List D)
  | .lst ds => some ds
  | .tup _ ds => some ds
  | _ => none
def pLen : D → Option PR
  | .lst ds => some (.d (.int ds.length))
  | .tup _ ds => some (.d (.int ds.length))
  | .str ds => (match lenOk ds with | true => some (.d (.int ds.length)) | false => none)
  | .dct ks _ => (match ks.all isKey with | true => some (.d (.int ks.length)) | false => none)
  | _ => none
def pAbs : D → Option PR
  | .int i => some (.d (.int i.natAbs))
  | _ => none
def pInt : D → Option PR
  | .int i => some (.d (.int i))
  | .bl b => some (.d (.int (b2i b)))
  | _ => none
def pSum : D → Option PR
  | .lst ds => (match sumL 0 ds with | some i => some (.d (.int i)) | none => none)
  | .tup _ ds => (match sumL 0 ds with | some i => some (.d (.int i)) | none => none)
  | _ => none
/-- a list's or a tuple's items -/
def seqD : D → Option (List D)
  | .lst ds => some ds
  | .tup _ ds => some ds
  | _ => none
def bestL (f : D → List D → D) : List D → Option PR
  | [] => none
  | a :: ds => (match alkAll (a :: ds) with | true => some (.d (f a ds)) | false => none)
def pMin1 (x : D) : Option PR := match seqD x with
  | some ds => bestL minL ds
  | none => none
def pMax1 (x : D) : Option PR := match seqD x with
  | some ds => bestL maxL ds
  | none => none
def pMin2 (a b : D) : Option PR := match alkAll [a, b] && noTop a && noTop b with
  | true => (match dlt b a with | true => some (.d b) | false => some (.d a))
  | false => none
def pMax2 (a b : D) : Option PR := match alkAll [a, b] && noTop a && noTop b with
  | true => (match dlt a b with | true => some (.d b) | false => some (.d a))
  | false => none
def bestD (f : D → List D → D) (z : D) : List D → Option PR
  | [] => some (.d z)
  | a :: ds => (match alkAll (a :: ds) with | true => some (.d (f a ds)) | false => none)
def pMinD (x z : D) : Option PR := match seqD x with
  | some ds => bestD minL z ds
  | none => none
def pMaxD (x z : D) : Option PR := match seqD x with
  | some ds => bestD maxL z ds
  | none => none
def sortedL (f : List D → List D) (ds : List D) : Option PR := match sortOk ds with
  | true => some (.fresh (f ds))
  | false => none
def pSorted (x : D) : Option PR := match seqD x with
  | some ds => sortedL sortD ds
  | none => none
def pSortedR (x : D) : Option PR := match seqD x with
  | some ds => sortedL sortR ds
  | none => none
def pTuple : D → Option PR
  | .lst ds => some (.d (.tup false ds))
  | .tup k ds => some (.d (.tup k ds))
  | _ => none
def pList (x : D) : Option PR := match seqD x with
  | some ds => some (.fresh ds)
  | none => none
def pGcd : D → D → Option PR
  | .int i, .int j => some (.d (.int (Nat.gcd i.natAbs j.natAbs)))
  | _, _ => none
def pIs (f : D → Bool) : D → Option PR
  | .dct _ _ => none
  | d => some (.d (.bl (f d)))
def isIntD : D → Bool
  | .int _ => true
  | .bl _ => true
  | _ => false
def isBoolD : D → Bool
  | .bl _ => true
  | _ => false
def isStrD : D → Bool
  | .str _ => true
  | _ => false
def pAll1 : D → Option PR
  | .lst ds => (match allL ds with | some b => some (.d (.bl b)) | none => none)
  | _ => none
def pAny1 : D → Option PR
  | .lst ds => (match anyL ds with | some b => some (.d (.bl b)) | none => none)
  | _ => none
def pJoin : D → D → Option PR
  | .str s, .lst ds => (match joinL s ds with | some t => (match lenOk t && lenOk s with | true => some (.d (.str t)) | false => none) | none => none)
  | _, _ => none
/-- a list, or a tuple known to have no dict -/
def seqM : D → Option (List D)
  | .lst ds => some ds
  | .tup true ds => some ds
  | _ => none
def pIndex (c x : D) : Option PR := match seqM c with
  | some ds => (match okN x 60 && okNs ds 60 with | true => (match idxEq x ds 0 with | some i => some (.d (.int i)) | none => none) | false => none)
  | none => none
def strC : D → D → Option PR
  | .str s, .str [c] => some (.d (.int (cntN c s)))
  | _, _ => none
def pCount (c x : D) : Option PR := match seqM c with
  | some ds => (match okN x 60 && okNs ds 60 with | true => some (.d (.int (cntEq x ds))) | false => none)
  | none => strC c x
def pStarts : D → D → Option PR
  | .str a, .str b => some (.d (.bl (isPre b a)))
  | _, _ => none
def pEnds : D → D → Option PR
  | .str a, .str b => some (.d (.bl (isPre b.reverse a.reverse)))
  | _, _ => none
def setL1 (ds : List D) : Option (List D) := match setOk ds with
  | true => dedup ds []
  | false => none
def pLenSet (x : D) : Option PR := match seqD x with
  | some ds => (match setL1 ds with | some t => some (.d (.int t.length)) | none => none)
  | none => none
def pSortedSet (x : D) : Option PR := match seqD x with
  | some ds => (match setL1 ds with | some t => sortedL sortD t | none => none)
  | none => none
def un (f : D → Option PR) : List D → Option PR
  | [a] => f a
  | _ => none
def bi (f : D → D → Option PR) : List D → Option PR
  | [a, b] => f a b
  | _ => none
def prim : Prim → List D → Option PR
  | .len => un pLen
  | .abs => un pAbs
  | .int => un pInt
  | .sum => un pSum
  | .min1 => un pMin1
  | .max1 => un pMax1
  | .min2 => bi pMin2
  | .max2 => bi pMax2
  | .minD => bi pMinD
  | .maxD => bi pMaxD
  | .sorted => un pSorted
  | .sortedR => un pSortedR
  | .tuple => un pTuple
  | .list => un pList
  | .gcd => bi pGcd
  | .isInt => un (pIs isIntD)
  | .isBool => un (pIs isBoolD)
  | .isStr => un (pIs isStrD)
  | .isTup => un (pIs isTupA)
  | .all1 => un pAll1
  | .any1 => un pAny1
  | .join => bi pJoin
  | .index => bi pIndex
  | .count => bi pCount
  | .starts => bi pStarts
  | .ends => bi pEnds
  | .lenSet => un pLenSet
  | .sortedSet => un pSortedSet
def mk (box : Bool) (st : St) : PR → W × St
  | .d x => (.d x, st)
  | .fresh ds => (match box with
    | true => (.ref st.length, st ++ [.lst ds])
    | false => (.d (.lst ds), st))
/-! targets -/
mutual
def asgT : T → D → Env → Option Env
  | .nm i, x, env => some (setE env i (.d x))
  | .tp ts, x, env => (match x with
    | .tup _ ds => asgTs ts ds env
    | _ => none)
def asgTs : List T → List D → Env → Option Env
  | [], [], env => some env
  | t :: ts, d :: ds, env => (match asgT t d env with
    | some env' => asgTs ts ds env'
    | none => none)
  | _, _, _ => none
end
/-! what is walked -/
/-- the items are known; or lists of the store, read as they are walked -/
inductive Src where
  | d (ds : List D) | o (n : Nat)
inductive Itr where
  | seq (ds : List D) | live (n : Nat) | enum (n : Nat) | zip (a b : Src)
def rngUp (a : Int) : Nat → List D
  | 0 => []
  | n + 1 => .int a :: rngUp (a + 1) n
def rngC (a c : Int) : Nat → List D
  | 0 => []
  | n + 1 => .int a :: rngC (a + c) c n
def rngLen (a b c : Int) : Nat := match c with
  | .ofNat 0 => 0
  | .ofNat c' => (((b - a) + (c - 1)) / c).toNat
  | .negSucc _ => (((a - b) + ((-c) - 1)) / (-c)).toNat
def pairUp (i : Int) : List D → List D
  | [] => []
  | x :: r => .tup false [.int i, x] :: pairUp (i + 1) r
def zip2 : List D → List D → List D
  | x :: r, y :: t => .tup false [x, y] :: zip2 r t
  | _, _ => []
def zip3 : List D → List D → List D → List D
  | x :: r, y :: t, z :: u => .tup false [x, y, z] :: zip3 r t u
  | _, _, _ => []
/-- rows of k of the items, in their order -/
def combs : List D → Nat → List (List D)
  | _, 0 => [[]]
  | [], _ + 1 => []
  | x :: r, k + 1 => (combs r k).map (x :: ·) ++ combs r (k + 1)
/-- each item and the others -/
def picks : List D → List (D × List D)
  | [] => []
  | x :: r => (x, r) :: (picks r).map fun p => (p.1, x :: p.2)
def perms : Nat → List D → List (List D)
  | 0, _ => [[]]
  | k + 1, xs => (picks xs).flatMap fun p => (perms k p.2).map (p.1 :: ·)
end Rf
/-! Rf1: the evaluator. -/
namespace Rf
abbrev Rs := Option (W × St)
/-- no list, no dict within -/
def noL : Nat → D → Bool
  | n, a => match a with
    | .lst _ => false
    | .dct _ _ => false
    | .tup _ ds => (match n with
      | 0 => false
      | m + 1 => ds.all (noL m))
    | _ => true
def isRef : W → Bool
  | .ref _ => true
  | _ => false
/-- combinations: the next places -/
def nextC (n : Nat) (indices : List Nat) : Option (List Nat) :=
  let r := indices.length
  match (List.range r).reverse.find? fun i => indices.getD i 0 != i + n - r with
  | none => none
  | some i => some (indices.take i ++ (List.range (r - i)).map (indices.getD i 0 + 1 + ·))
/-- the rows of places from ix on -/
def cRows (n : Nat) : Nat → List Nat → Option (List (List Nat))
  | 0, _ => none
  | f + 1, ix => (match nextC n ix with
    | none => some [ix]
    | some jx => (match cRows n f jx with
      | some l => some (ix :: l)
      | none => none))
def rowD (xs : List D) (ix : List Nat) : D := .tup false (ix.map fun i => match nth xs i with | some d => d | none => .non)
def rowsC (n k : Nat) : Option (List (List Nat)) := match Nat.ble k n with
  | false => some []
  | true => (match cRows n 100000 (List.range k) with
    | some L => (match L.all fun ix => Nat.ble ix.length 1000 with | true => some L | false => none)
    | none => none)
def combR (xs : List D) (k : Nat) : Option (List D) := match rowsC xs.length k with
  | some L => some (L.map (rowD xs))
  | none => none
structure Calls where
  call : Nat → List D → Option D
  callr : Nat → Ob → List D → Option (D × Ob)
def tB (b : Bool) (st : St) : Rs := some (.d (.bl b), st)
def ofT3 (t : T3) (st : St) : Rs := match t with
  | .y => some (.d (.bl true), st)
  | .n => some (.d (.bl false), st)
  | .bad => none
/-- two values, as data -/
def view2 (st : St) (x y : W) : Option (D × D) := match view st x with
  | some a => (match view st y with
    | some b => some (a, b)
    | none => none)
  | none => none
def isB : W → Option Bool
  | .d (.bl b) => some b
  | _ => none
/-- the items that are there now: an item at place i, or the end -/
inductive Nxt where
  | item (x : D) | stop | bad
def stopAt (i n : Nat) : Nxt := match Nat.beq i n with
  | true => .stop
  | false => .bad
def srcAt (st : St) : Src → Nat → Nxt
  | .d ds, i => (match nth ds i with | some x => .item x | none => stopAt i ds.length)
  | .o n, i => (match getO st n with
    | .lst ds => (match nth ds i with | some x => .item x | none => stopAt i ds.length)
    | _ => .bad)
def nxt (it : Itr) (st : St) (i : Nat) : Nxt := match it with
  | .seq ds => (match nth ds i with | some x => .item x | none => stopAt i ds.length)
  | .live n => (match getO st n with
    | .lst ds => (match nth ds i with | some x => .item x | none => .stop)
    | _ => .bad)
  | .enum n => (match srcAt st (.o n) i with
    | .item x => .item (.tup false [.int i, x])
    | r => r)
  | .zip a b => (match srcAt st a i with
    | .item x => (match srcAt st b i with
      | .item y => .item (.tup false [x, y])
      | r => r)
    | .stop => (match srcAt st b i with
      | .bad => .bad
      | _ => .stop)
    | .bad => .bad)
/-- what an evaluation leaves, as data -/
def dat : Rs → Option D
  | some (w, st) => (match freeze st w with
    | some (d, _) => some d
    | none => none)
  | none => none
def bool : Rs → Option Bool
  | some (.d (.bl b), _) => some b
  | _ => none
/-- all tests hold (without the store) -/
def tests (fs : List (Env → St → Rs)) (env : Env) : Option Bool := match fs with
  | [] => some true
  | f :: r => (match bool (f env []) with
    | some true => tests r env
    | some false => some false
    | none => none)
/-- a comprehension's turns over known items: what the elements give, put behind acc -/
def compL (f : Env → St → Rs) (ts : Env → Option Bool) (t : T) (env : Env) : List D → Option (List D)
  | [] => some []
  | x :: r => (match asgT t x env with
    | none => none
    | some env' => (match ts env' with
      | none => none
      | some false => compL f ts t env r
      | some true => (match dat (f env' []) with
        | none => none
        | some d => (match compL f ts t env r with
          | some ds => some (d :: ds)
          | none => none))))
/-- two clauses: the inner source is reckoned anew -/
def compL2 (g : Env → Option (List D)) (f : Env → St → Rs) (ts ts2 : Env → Option Bool) (t t2 : T) (own2 : List Nat) (env : Env) : List D → Option (List D)
  | [] => some []
  | x :: r => (match asgT t x env with
    | none => none
    | some env' => (match ts env' with
      | none => none
      | some false => compL2 g f ts ts2 t t2 own2 env r
      | some true => (match g env' with
        | none => none
        | some ds => (match compL f ts2 t2 (wipeE env' own2) ds with
          | none => none
          | some es => (match compL2 g f ts ts2 t t2 own2 env r with
            | some es' => some (es ++ es')
            | none => none)))))
/-- the pairs of a dict comprehension -/
def dcompL (fk fv : Env → St → Rs) (ts : Env → Option Bool) (t : T) (env : Env) : List D → List D → List D → Option (List D × List D)
  | [], ks, vs => some (ks, vs)
  | x :: r, ks, vs => (match asgT t x env with
    | none => none
    | some env' => (match ts env' with
      | none => none
      | some false => dcompL fk fv ts t env r ks vs
      | some true => (match dat (fk env' []) with
        | some k => (match dat (fv env' []) with
          | some v => (match keyOk ks k with
            | true => (match putD k v ks vs with
              | (ks', vs') => dcompL fk fv ts t env r ks' vs')
            | false => none)
          | none => none)
        | none => none)))
/-- all (stop = false), any (stop = true) of elements that are bools: till the first that is stop -/
def quant (stop : Bool) (f : Env → St → Rs) (ts : Env → Option Bool) (t : T) (env : Env) : List D → Option Bool
  | [] => some (!stop)
  | x :: r => (match asgT t x env with
    | none => none
    | some env' => (match ts env' with
      | none => none
      | some false => quant stop f ts t env r
      | some true => (match bool (f env' []) with
        | some b => (match b == stop with
          | true => some stop
          | false => quant stop f ts t env r)
        | none => none)))
def quant2 (stop : Bool) (g : Env → Option (List D)) (f : Env → St → Rs) (ts ts2 : Env → Option Bool) (t t2 : T) (own2 : List Nat) (env : Env) : List D → Option Bool
  | [] => some (!stop)
  | x :: r => (match asgT t x env with
    | none => none
    | some env' => (match ts env' with
      | none => none
      | some false => quant2 stop g f ts ts2 t t2 own2 env r
      | some true => (match g env' with
        | none => none
        | some ds => (match quant stop f ts2 t2 (wipeE env' own2) ds with
          | none => none
          | some b => (match b == stop with
            | true => some stop
            | false => quant2 stop g f ts ts2 t t2 own2 env r)))))
def chrs (s : List Nat) : List D := s.map fun c => .str [c]
/-- what data gives when it is walked -/
def walkD : D → Option (List D)
  | .lst ds => some ds
  | .tup _ ds => some ds
  | .str s => some (chrs s)
  | _ => none
/-- what a value gives when it is walked -/
def walkV (st : St) : W → Option Itr
  | .d d => (match walkD d with | some ds => some (.seq ds) | none => none)
  | .ref n => (match getO st n with
    | .lst _ => some (.live n)
    | _ => none)
  | .un => none
def srcV (st : St) : W → Option Src
  | .d (.lst ds) => some (.d ds)
  | .d (.tup _ ds) => some (.d ds)
  | .ref n => (match getO st n with
    | .lst _ => some (.o n)
    | _ => none)
  | _ => none
/-- known ahead -/
def seqOnly : Option (Itr × St) → Option (List D)
  | some (.seq ds, []) => (match lenOk ds with | true => some ds | false => none)
  | _ => none
/-- the slots without the store -/
def snapE (md : Bool) (st : St) : Env → Env
  | [] => []
  | .ref n :: r => (match md with
    | true => (match view st (.ref n) with | some d => .d d | none => .un)
    | false => .un) :: snapE md st r
  | w :: r => w :: snapE md st r
def noLs : List D → Bool
  | [] => true
  | d :: r => noL 60 d && noLs r
def noOb : Ob → Bool
  | .lst ds => noLs ds
  | .dct ks vs => noLs vs
  | .dead => false
/-- one new object, in the store or kept as data -/
def putOb (box : Bool) (st : St) (ob : Ob) : Option (W × St) := match box with
  | true => some (.ref st.length, st ++ [ob])
  | false => (match ob with
    | .lst ds => some (.d (.lst ds), st)
    | .dct ks vs => some (.d (.dct ks vs), st)
    | .dead => none)
/-- back to the store: data, or one new object -/
def unpur (md box : Bool) (st : St) : Rs → Rs
  | some (.d d, _) => (match !md || noL 60 d with
    | true => some (.d d, st)
    | false => none)
  | some (.ref 0, [ob]) => (match !md || noOb ob with
    | true => putOb box st ob
    | false => none)
  | _ => none
def isDct : Option D → Bool
  | some (.dct _ _) => true
  | _ => false
def orD (o : Option D) (z : D) : D := match o with
  | some d => d
  | none => z
def isLst : Ob → Bool
  | .lst _ => true
  | _ => false
def mkD (box : Bool) (st : St) (ks vs : List D) : W × St := match box with
  | true => (.ref st.length, st ++ [.dct ks vs])
  | false => (.d (.dct ks vs), st)
mutual
def ev (C : Calls) : E → Env → St → Rs
  | .lit d, _, st => some (.d d, st)
  | .var i, env, st => (match getE env i with
    | .un => none
    | w => some (w, st))
  | .tup k es, env, st => (match evD C es env st with
    | some (ds, st1) => some (.d (.tup k ds), st1)
    | none => none)
  | .lst box es, env, st => (match evD C es env st with
    | some (ds, st1) => some (mk box st1 (.fresh ds))
    | none => none)
  | .dct box kvs, env, st => (match evP C kvs env st with
    | some (ks', vs', st1) => some (mkD box st1 ks' vs')
    | none => none)
  | .bin op box a b, env, st => (match ev C a env st with
    | some (x, st1) => (match ev C b env st1 with
      | some (y, st2) => (match view2 st2 x y with
        | some (p, q) => (match binop op p q with
          | some r => some (mk box st2 r)
          | none => none)
        | none => none)
      | none => none)
    | none => none)
  | .neg a, env, st => (match ev C a env st with
    | some (.d (.int i), st1) => some (.d (.int (-i)), st1)
    | _ => none)
  | .cmp op a b, env, st => (match ev C a env st with
    | some (x, st1) => (match ev C b env st1 with
      | some (y, st2) => (match view2 st2 x y with
        | some (p, q) => ofT3 (cmpop op p q) st2
        | none => none)
      | none => none)
    | none => none)
  | .chain op op' a b c, env, st => (match ev C a env st with
    | some (x, st1) => (match ev C b env st1 with
      | some (y, st2) => (match view2 st2 x y with
        | some (p, q) => (match cmpop op p q with
          | .y => (match ev C c env st2 with
            | some (z, st3) => (match view2 st3 y z with
              | some (q', r) => ofT3 (cmpop op' q' r) st3
              | none => none)
            | none => none)
          | .n => some (.d (.bl false), st2)
          | .bad => none)
        | none => none)
      | none => none)
    | none => none)
  | .chain3 op op' op2 a b c d, env, st => (match ev C a env st with
    | some (x, st1) => (match ev C b env st1 with
      | some (y, st2) => (match view2 st2 x y with
        | some (p, q) => (match cmpop op p q with
          | .y => (match ev C c env st2 with
            | some (z, st3) => (match view2 st3 y z with
              | some (q', r) => (match cmpop op' q' r with
                | .y => (match ev C d env st3 with
                  | some (u, st4) => (match view2 st4 z u with
                    | some (r', v) => ofT3 (cmpop op2 r' v) st4
                    | none => none)
                  | none => none)
                | .n => some (.d (.bl false), st3)
                | .bad => none)
              | none => none)
            | none => none)
          | .n => some (.d (.bl false), st2)
          | .bad => none)
        | none => none)
      | none => none)
    | none => none)
  | .and_ a b, env, st => (match ev C a env st with
    | some (.d (.bl true), st1) => ev C b env st1
    | some (.d (.bl false), st1) => some (.d (.bl false), st1)
    | _ => none)
  | .or_ a b, env, st => (match ev C a env st with
    | some (.d (.bl false), st1) => ev C b env st1
    | some (.d (.bl true), st1) => some (.d (.bl true), st1)
    | _ => none)
  | .not_ a, env, st => (match ev C a env st with
    | some (.d (.bl b), st1) => some (.d (.bl (!b)), st1)
    | _ => none)
  | .tru a, env, st => (match ev C a env st with
    | some (w, st1) => (match view st1 w with
      | some d => (match truth d with
        | some b => some (.d (.bl b), st1)
        | none => none)
      | none => none)
    | none => none)
  | .ite c a b, env, st => (match ev C c env st with
    | some (.d (.bl true), st1) => ev C a env st1
    | some (.d (.bl false), st1) => ev C b env st1
    | _ => none)
  | .ix a b, env, st => (match ev C a env st with
    | some (x, st1) => (match ev C b env st1 with
      | some (y, st2) => (match view2 st2 x y with
        | some (.lst ds, .int i) => (match atD ds i with | some d => some (.d d, st2) | none => none)
        | some (.tup _ ds, .int i) => (match atD ds i with | some d => some (.d d, st2) | none => none)
        | some (.str s, .int i) => (match lenOk s with
          | true => (match ixN s.length i with
            | some k => (match nth s k with | some c => some (.d (.str [c]), st2) | none => none)
            | none => none)
          | false => none)
        | some (.dct ks vs, k) => (match keyOk ks k with
          | true => (match lookD k ks vs with | some d => some (.d d, st2) | none => none)
          | false => none)
        | _ => none)
      | none => none)
    | none => none)
  | .slc box a lo hi, env, st => (match ev C a env st with
    | some (x, st1) => (match evO C lo env st1 with
      | some (l, st2) => (match evO C hi env st2 with
        | some (h, st3) => (match view st3 x with
          | some (.lst ds) => some (mk box st3 (.fresh (cut ds l h)))
          | some (.tup k ds) => some (.d (cutT k ds l h), st3)
          | some (.str s) => (match lenOk s with | true => some (.d (.str (cut s l h)), st3) | false => none)
          | _ => none)
        | none => none)
      | none => none)
    | none => none)
  | .slr box a hi, env, st => (match ev C a env st with
    | some (x, st1) => (match evO C hi env st1 with
      | some (some (.ofNat k), st2) => (match view st2 x with
        | some (.lst ds) => some (mk box st2 (.fresh (ds.drop (k + 1)).reverse))
        | some (.tup _ ds) => some (.d (.tup false (ds.drop (k + 1)).reverse), st2)
        | _ => none)
      | some (none, st2) => (match view st2 x with
        | some (.lst ds) => some (mk box st2 (.fresh ds.reverse))
        | some (.tup _ ds) => some (.d (.tup false ds.reverse), st2)
        | _ => none)
      | _ => none)
    | none => none)
  | .prim p box es, env, st => (match evW C es env st with
    | some (ws, st1) => (match views st1 ws with
      | some ds => (match prim p ds with
        | some r => some (mk box st1 r)
        | none => none)
      | none => none)
    | none => none)
  | .dget d k z, env, st => (match ev C d env st with
    | some (x, st1) => (match isDct (view st1 x) with
      | true => (match ev C k env st1 with
        | some (.d y, st2) => (match ev C z env st2 with
          | some (.d v, st3) => (match view st3 x with
            | some (.dct ks vs) => (match keyOk ks y with
              | true => some (.d (orD (lookD y ks vs) v), st3)
              | false => none)
            | _ => none)
          | _ => none)
        | _ => none)
      | false => none)
    | none => none)
  | .pop1 i, env, st => (match getE env i with
    | .ref n => (match getO st n with
      | .lst ds => (match ds.reverse with
        | x :: r => some (.d x, setO st n (.lst r.reverse))
        | [] => none)
      | _ => none)
    | _ => none)
  | .popAt .., _, _ => none
  | .meth p a b, env, st => (match ev C a env st with
    | some (x, st1) => (match view st1 x with
      | some d1 => (match ev C b env st1 with
        | some (y, st2) => (match view2 st2 x y with
          | some (d, q) => (match decide (kindD d1 = kindD d) with
            | true => (match prim p [d, q] with
              | some (.d r) => some (.d r, st2)
              | _ => none)
            | false => none)
          | none => none)
        | none => none)
      | none => none)
    | none => none)
  | .push i e, env, st => (match getE env i with
    | .ref n => (match isLst (getO st n) with
     | true => (match ev C e env st with
      | some (w, st1) => (match freeze st1 w with
        | some (x, st2) => (match getO st2 n with
          | .lst ds => (match lenOk ds with
            | true => some (.d .non, setO st2 n (.lst (ds ++ [x])))
            | false => none)
          | _ => none)
        | none => none)
      | none => none)
     | false => none)
    | _ => none)
  | .extend i e, env, st => (match getE env i with
    | .ref n => (match isLst (getO st n) with
      | true => (match ev C e env st with
        | some (.d (.lst es), st1) => (match getO st1 n with
          | .lst ds => (match lenOk (ds ++ es) with
            | true => some (.d .non, setO st1 n (.lst (ds ++ es)))
            | false => none)
          | _ => none)
        | _ => none)
      | false => none)
    | _ => none)
  | .call f es, env, st => (match evW C es env st with
    | some (ws, st1) => (match views st1 ws with
      | some ds => (match C.call f ds with
        | some r => (match !(ws.any isRef) || noL 60 r with
          | true => some (.d r, st1)
          | false => none)
        | none => none)
      | none => none)
    | none => none)
  | .callr f i es, env, st => (match getE env i with
    | .ref n => (match evW C es env st with
      | some (ws, st1) => (match ws.any isRef with
        | true => none
        | false => (match views st1 ws with
          | some ds => (match getO st1 n with
            | .dead => none
            | o => (match C.callr f o ds with
              | some (r, o') => some (.d r, setO st1 n o')
              | none => none))
          | none => none))
      | none => none)
    | _ => none)
  | .pur md box e, env, st => (match st with
    | [] => unpur false box [] (ev C e env [])
    | _ :: _ => unpur md box st (ev C e (snapE md st env) []))
  | .ofIt tup box it, env, st => (match evF C it env st with
    | some (.seq ds, st1) => (match tup with
      | true => some (.d (.tup false ds), st1)
      | false => some (mk box st1 (.fresh ds)))
    | _ => none)
  | .comp elt own t it ifs, env, st => (match st with
    | [] => (match seqOnly (evF C it env []) with
      | some ds => (match compL (ev C elt) (tests (evT C ifs)) t (wipeE env own) ds with
        | some r => some (.ref 0, [.lst r])
        | none => none)
      | none => none)
    | _ :: _ => none)
  | .comp2 elt own own2 t it ifs t2 it2 ifs2, env, st => (match st with
    | [] => (match seqOnly (evF C it env []) with
      | some ds => (match compL2 (fun env => seqOnly (evF C it2 env [])) (ev C elt) (tests (evT C ifs)) (tests (evT C ifs2)) t t2 own2 (wipeE env own) ds with
        | some r => some (.ref 0, [.lst r])
        | none => none)
      | none => none)
    | _ :: _ => none)
  | .dcomp k v own t it ifs, env, st => (match st with
    | [] => (match seqOnly (evF C it env []) with
      | some ds => (match dcompL (ev C k) (ev C v) (tests (evT C ifs)) t (wipeE env own) ds [] [] with
        | some (ks, vs) => some (.ref 0, [.dct ks vs])
        | none => none)
      | none => none)
    | _ :: _ => none)
  | .all_ elt own t it ifs, env, st => (match st with
    | [] => (match seqOnly (evF C it env []) with
      | some ds => (match quant false (ev C elt) (tests (evT C ifs)) t (wipeE env own) ds with
        | some b => some (.d (.bl b), [])
        | none => none)
      | none => none)
    | _ :: _ => none)
  | .any_ elt own t it ifs, env, st => (match st with
    | [] => (match seqOnly (evF C it env []) with
      | some ds => (match quant true (ev C elt) (tests (evT C ifs)) t (wipeE env own) ds with
        | some b => some (.d (.bl b), [])
        | none => none)
      | none => none)
    | _ :: _ => none)
  | .all2 elt own own2 t it ifs t2 it2 ifs2, env, st => (match st with
    | [] => (match seqOnly (evF C it env []) with
      | some ds => (match quant2 false (fun env => seqOnly (evF C it2 env [])) (ev C elt) (tests (evT C ifs)) (tests (evT C ifs2)) t t2 own2 (wipeE env own) ds with
        | some b => some (.d (.bl b), [])
        | none => none)
      | none => none)
    | _ :: _ => none)
  | .any2 elt own own2 t it ifs t2 it2 ifs2, env, st => (match st with
    | [] => (match seqOnly (evF C it env []) with
      | some ds => (match quant2 true (fun env => seqOnly (evF C it2 env [])) (ev C elt) (tests (evT C ifs)) (tests (evT C ifs2)) t t2 own2 (wipeE env own) ds with
        | some b => some (.d (.bl b), [])
        | none => none)
      | none => none)
    | _ :: _ => none)
  | _, _, _ => none
/-- a test list's trees -/
def evT (C : Calls) : List E → List (Env → St → Rs)
  | [] => []
  | e :: r => ev C e :: evT C r
/-- values, from the left -/
def evW (C : Calls) : List E → Env → St → Option (List W × St)
  | [], _, st => some ([], st)
  | e :: r, env, st => (match ev C e env st with
    | some (w, st1) => (match evW C r env st1 with
      | some (ws, st2) => some (w :: ws, st2)
      | none => none)
    | none => none)
/-- values kept as data, from the left -/
def evD (C : Calls) : List E → Env → St → Option (List D × St)
  | [], _, st => some ([], st)
  | e :: r, env, st => (match ev C e env st with
    | some (w, st1) => (match freeze st1 w with
      | some (d, st2) => (match evD C r env st2 with
        | some (ds, st3) => some (d :: ds, st3)
        | none => none)
      | none => none)
    | none => none)
/-- a dict's pairs: none or one -/
def evP (C : Calls) : List E → Env → St → Option (List D × List D × St)
  | [], _, st => some ([], [], st)
  | [k, v], env, st => (match ev C k env st with
    | some (.d x, st1) => (match ev C v env st1 with
      | some (w, st2) => (match freeze st2 w with
        | some (y, st3) => (match isKey x with
          | true => some ([x], [y], st3)
          | false => none)
        | none => none)
      | none => none)
    | _ => none)
  | _, _, _ => none
/-- a slice's bound -/
def evO (C : Calls) : Option E → Env → St → Option (Option Int × St)
  | none, _, st => some (none, st)
  | some e, env, st => (match ev C e env st with
    | some (.d (.int i), st1) => some (some i, st1)
    | _ => none)
/-- what is walked -/
def evF (C : Calls) : E → Env → St → Option (Itr × St)
  | .rng1 a, env, st => (match ev C a env st with
    | some (.d (.int i), st1) => (match small i && Nat.ble i.toNat MAXL with | true => some (.seq (rngUp 0 i.toNat), st1) | false => none)
    | _ => none)
  | .rng2 a b, env, st => (match ev C a env st with
    | some (.d (.int i), st1) => (match ev C b env st1 with
      | some (.d (.int j), st2) => (match small i && small j && Nat.ble (j - i).toNat MAXL with | true => some (.seq (rngUp i (j - i).toNat), st2) | false => none)
      | _ => none)
    | _ => none)
  | .rng3 a b c, env, st => (match ev C a env st with
    | some (.d (.int i), st1) => (match ev C b env st1 with
      | some (.d (.int j), st2) => (match ev C c env st2 with
        | some (.d (.int k), st3) => (match small i && small j && Nat.blt k.natAbs 1000000 && !(ieq k 0) && Nat.ble (rngLen i j k) MAXL with | true => some (.seq (rngC i k (rngLen i j k)), st3) | false => none)
        | _ => none)
      | _ => none)
    | _ => none)
  | .enum a, env, st => (match ev C a env st with
    | some (w, st1) => (match srcV st1 w with
      | some (.d ds) => some (.seq (pairUp 0 ds), st1)
      | some (.o n) => some (.enum n, st1)
      | none => (match w with
        | .d (.str s) => some (.seq (pairUp 0 (chrs s)), st1)
        | _ => none))
    | none => none)
  | .zip a b, env, st => (match ev C a env st with
    | some (x, st1) => (match ev C b env st1 with
      | some (y, st2) => (match srcV st2 x with
        | some s => (match srcV st2 y with
          | some t => (match s, t with
            | .d xs, .d ys => some (.seq (zip2 xs ys), st2)
            | s, t => some (.zip s t, st2))
          | none => none)
        | none => none)
      | none => none)
    | none => none)
  | .zip3 a b c, env, st => (match ev C a env st with
    | some (x, st1) => (match ev C b env st1 with
      | some (y, st2) => (match ev C c env st2 with
        | some (z, st3) => (match srcV st3 x, srcV st3 y, srcV st3 z with
          | some (.d xs), some (.d ys), some (.d zs) => some (.seq (zip3 xs ys zs), st3)
          | _, _, _ => none)
        | none => none)
      | none => none)
    | none => none)
  | .revd a, env, st => (match ev C a env st with
    | some (.d (.lst ds), st1) => some (.seq ds.reverse, st1)
    | some (.d (.tup _ ds), st1) => some (.seq ds.reverse, st1)
    | _ => none)
  | .items a, env, st => (match ev C a env st with
    | some (.d (.dct ks vs), st1) => some (.seq (zip2 ks vs), st1)
    | _ => none)
  | .keys a, env, st => (match ev C a env st with
    | some (.d (.dct ks _), st1) => some (.seq ks, st1)
    | _ => none)
  | .vals a, env, st => (match ev C a env st with
    | some (.d (.dct _ vs), st1) => some (.seq vs, st1)
    | _ => none)
  | .combs a k, env, st => (match evF C a env st with
    | some (.seq xs, st1) => (match ev C k env st1 with
      | some (.d (.int i), st2) => (match !(ilt i 0) && small i && Nat.ble i.toNat 1000 && Nat.ble xs.length MAXL with
        | true => (match combR xs i.toNat with
          | some ds => some (.seq ds, st2)
          | none => none)
        | false => none)
      | _ => none)
    | _ => none)
  | .perms a, env, st => (match evF C a env st with
    | some (.seq xs, st1) => (match Nat.ble xs.length 8 with | true => some (.seq ((perms xs.length xs).map (.tup false)), st1) | false => none)
    | _ => none)
  | .permsK a k, env, st => (match evF C a env st with
    | some (.seq xs, st1) => (match ev C k env st1 with
      | some (.d (.int i), st2) => (match Nat.ble xs.length 8 && !(ilt i 0) && small i with | true => some (.seq ((match Nat.ble i.toNat xs.length with | true => perms i.toNat xs | false => []).map (.tup false)), st2) | false => none)
      | _ => none)
    | _ => none)
  | .walk e, env, st => (match ev C e env st with
    | some (w, st1) => (match walkV st1 w with | some it => some (it, st1) | none => none)
    | none => none)
  | _, _, _ => none
end
/-! ### statements -/
abbrev Rx := Option (Fl × Env × St)
def forSeq (b : Env → St → Rx) (t : T) : List D → Env → St → Rx
  | [], env, st => some (.nx, env, st)
  | x :: r, env, st => (match asgT t x env with
    | none => none
    | some env1 => (match b env1 st with
      | some (.nx, env2, st2) => forSeq b t r env2 st2
      | some (.cont, env2, st2) => forSeq b t r env2 st2
      | some (.brk, env2, st2) => some (.nx, env2, st2)
      | some (.ret x, env2, st2) => some (.ret x, env2, st2)
      | none => none))
/-- over what is read as it stands at each turn -/
def forLive (b : Env → St → Rx) (t : T) (it : Itr) : Nat → Nat → Env → St → Rx
  | 0, _, _, _ => none
  | fuel + 1, i, env, st => (match nxt it st i with
    | .bad => none
    | .stop => some (.nx, env, st)
    | .item x => (match asgT t x env with
      | none => none
      | some env1 => (match b env1 st with
        | some (.nx, env2, st2) => forLive b t it fuel (i + 1) env2 st2
        | some (.cont, env2, st2) => forLive b t it fuel (i + 1) env2 st2
        | some (.brk, env2, st2) => some (.nx, env2, st2)
        | some (.ret x, env2, st2) => some (.ret x, env2, st2)
        | none => none)))
def whileN (c : Env → St → Rs) (b : Env → St → Rx) : Nat → Env → St → Rx
  | 0, _, _ => none
  | fuel + 1, env, st => (match c env st with
    | some (.d (.bl true), st1) => (match b env st1 with
      | some (.nx, env2, st2) => whileN c b fuel env2 st2
      | some (.cont, env2, st2) => whileN c b fuel env2 st2
      | some (.brk, env2, st2) => some (.nx, env2, st2)
      | some (.ret x, env2, st2) => some (.ret x, env2, st2)
      | none => none)
    | some (.d (.bl false), st1) => some (.nx, env, st1)
    | _ => none)
def FUEL : Nat := 100000
/-- an object's item set, read -/
def setOb (ob : Ob) (k x : D) : Option Ob := match ob with
  | .lst ds => (match k with
    | .int j => (match ixN ds.length j with
      | some m => some (.lst (setL ds m x))
      | none => none)
    | _ => none)
  | .dct ks vs => (match keyOk ks k && lenOk ks with
    | true => some (.dct (putD k x ks vs).1 (putD k x ks vs).2)
    | false => none)
  | .dead => none
def getOb (ob : Ob) (k : D) : Option D := match ob with
  | .lst ds => (match k with
    | .int j => atD ds j
    | _ => none)
  | .dct ks vs => (match keyOk ks k with
    | true => lookD k ks vs
    | false => none)
  | .dead => none
mutual
def ex (C : Calls) : S → Env → St → Rx
  | .asg t e, env, st => (match ev C e env st with
    | some (w, st1) => (match t with
      | .nm i => some (.nx, setE env i w, st1)
      | .tp ts => (match view st1 w with
        | some d => (match asgT (.tp ts) d env with
          | some env1 => some (.nx, env1, st1)
          | none => none)
        | none => none))
    | none => none)
  | .par is es, env, st => (match evW C es env st with
    | some (ws, st1) => (match Nat.beq is.length ws.length with
      | true => some (.nx, (is.zip ws).foldr (fun p en => setE en p.1 p.2) env, st1)
      | false => none)
    | none => none)
  | .setI a i e, env, st => (match ev C e env st with
    | some (w, st1) => (match getE env a with
      | .ref n => (match ev C i env st1 with
        | some (.d k, st2) => (match freeze st2 w with
          | some (x, st3) => (match setOb (getO st3 n) k x with
            | some ob => some (.nx, env, setO st3 n ob)
            | none => none)
          | none => none)
        | _ => none)
      | _ => none)
    | none => none)
  | .set2 a i b j e f, env, st => (match evD C [e, f] env st with
    | some ([x, y], st1) => (match getE env a with
      | .ref n => (match ev C i env st1 with
        | some (.d (.int k), st2) => (match getO st2 n with
          | .lst ds => (match ixN ds.length k with
            | some m => (match getE env b with
              | .ref n2 => (match ev C j env (setO st2 n (.lst (setL ds m x))) with
                | some (.d (.int k2), st4) => (match getO st4 n2 with
                  | .lst ds2 => (match ixN ds2.length k2 with
                    | some m2 => some (.nx, env, setO st4 n2 (.lst (setL ds2 m2 y)))
                    | none => none)
                  | _ => none)
                | _ => none)
              | _ => none)
            | none => none)
          | _ => none)
        | _ => none)
      | _ => none)
    | _ => none)
  | .aug op i e, env, st => (match getE env i with
    | .d x => (match ev C e env st with
      | some (.d y, st1) => (match augD op x y with
        | some r => some (.nx, setE env i (.d r), st1)
        | none => none)
      | _ => none)
    | _ => none)
  | .augI op a i e, env, st => (match getE env a with
    | .ref n => (match ev C i env st with
      | some (.d k, st1) => (match getOb (getO st1 n) k with
        | some old => (match ev C e env st1 with
          | some (.d v, st2) => (match augD op old v with
            | some r => (match setOb (getO st2 n) k r with
              | some ob => some (.nx, env, setO st2 n ob)
              | none => none)
            | none => none)
          | _ => none)
        | none => none)
      | _ => none)
    | _ => none)
  | .pushI a i e, env, st => none
  | .ex e, env, st => (match ev C e env st with
    | some (_, st1) => some (.nx, env, st1)
    | none => none)
  | .ret e, env, st => (match ev C e env st with
    | some (w, st1) => (match freeze st1 w with
      | some (x, st2) => some (.ret x, env, st2)
      | none => none)
    | none => none)
  | .ifs c a b, env, st => (match ev C c env st with
    | some (.d (.bl true), st1) => exs C a env st1
    | some (.d (.bl false), st1) => exs C b env st1
    | _ => none)
  | .for_ t it b, env, st => (match evF C it env st with
    | some (.seq ds, st1) => forSeq (exs C b) t ds env st1
    | some (it', st1) => forLive (exs C b) t it' FUEL 0 env st1
    | none => none)
  | .while_ c b, env, st => whileN (ev C c) (exs C b) FUEL env st
  | .brk, env, st => some (.brk, env, st)
  | .cont, env, st => some (.cont, env, st)
  | .pass, env, st => some (.nx, env, st)
def exs (C : Calls) : List S → Env → St → Rx
  | [], env, st => some (.nx, env, st)
  | s :: r, env, st => (match ex C s env st with
    | some (.nx, env1, st1) => exs C r env1 st1
    | x => x)
end
/-! ### functions -/
structure Fn where
  npar : Nat
  nslot : Nat
  body : List S
  nat : Option (List D → Option D) := none
  deriving Inhabited
def rets : Rx → Option (D × St)
  | some (.ret x, _, st) => some (x, st)
  | some (.nx, _, st) => some (.non, st)
  | _ => none
def uns : Nat → List W
  | 0 => []
  | n + 1 => .un :: uns n
def start (f : Fn) (ws : List W) : Option Env := match Nat.beq ws.length f.npar with
  | true => some (ws ++ uns (f.nslot - f.npar))
  | false => none
def calls (fns : List Fn) : Nat → Calls
  | 0 => ⟨fun _ _ => none, fun _ _ _ => none⟩
  | d + 1 => ⟨fun f ds => (match nth fns f with
      | some fn => (match fn.nat with
        | some g => g ds
        | none => (match start fn (ds.map .d) with
          | some env => (match rets (exs (calls fns d) fn.body env []) with
            | some (x, _) => some x
            | none => none)
          | none => none))
      | none => none),
    fun f o ds => (match nth fns f with
      | some fn => (match start fn (.ref 0 :: ds.map .d) with
        | some env => (match rets (exs (calls fns d) fn.body env [o]) with
          | some (x, st) => some (x, getO st 0)
          | none => none)
        | none => none)
      | none => none)⟩
end Rf
/-! Rf2: from the row's syntax to the small language. -/
namespace Rf
open PySem
/-- what a def is compiled by: its slots, the defs of the module, those whose first argument is changed, the names whose lists are changed here -/
structure Cc where
  fz : Bool
  lv : Nat
  wr : Str → Bool
  N : List Str
  fns : List Str
  refs : List Str
  mu : List Str
  imp : List Str
def posOf (x : Str) : List Str → Nat → Option Nat
  | [], _ => none
  | y :: r, i => if y = x then some i else posOf x r (i + 1)
def isVis (sc : Scope) (x : Str) : Bool := match sc.names.lookup x with
  | some .local => true
  | some .cell => true
  | some .free => true
  | _ => false
def isLoc (sc : Scope) (x : Str) : Bool := match sc.names.lookup x with
  | some .local => true
  | some .cell => true
  | _ => false
def isGl (sc : Scope) (x : Str) : Bool := match sc.names.lookup x with
  | some .globalImplicit => true
  | _ => false
def okName (x : Str) : Bool := !(x == ("__debug__" : Str)) && !(x == ("__classdict__" : Str))
def slotR (C : Cc) (sc : Scope) (x : Str) : Option Nat := match isVis sc x && okName x with
  | true => posOf x C.N 0
  | false => none
def slotW (C : Cc) (sc : Scope) (x : Str) : Option Nat := match sc.names.lookup x with
  | some .local => posOf x C.N 0
  | some .cell => (match C.wr x with
    | true => posOf x C.N 0
    | false => none)
  | _ => none
/-- a number, a text, written or a name -/
def litE : Expr → Bool
  | .Constant .. => true
  | .Name .. => true
  | .BinOp .. => true
  | .UnaryOp .. => true
  | _ => false
def fewE (es : List Expr) : Bool := Nat.ble es.length 1000
/-- the scope that a block runs in -/
def relB (scope sc : Scope) : Scope :=
  { scope with names := scope.names.map fun (n, k) => if (k == .free && sc.kind == .function && sc.names.lookup n == some .cell) then (n, .cell) else (n, k) }
def bopOf : Operator → Option BOp
  | .Add => some .add
  | .Sub => some .sub
  | .Mult => some .mul
  | .FloorDiv => some .fdiv
  | .Mod => some .mod
  | .Pow => some .pow
  | _ => none
def copOf : CmpOp → COp
  | .Eq => .eq
  | .NotEq => .ne
  | .Lt => .lt
  | .LtE => .le
  | .Gt => .gt
  | .GtE => .ge
  | .Is => .is
  | .IsNot => .isnot
  | .In => .isin
  | .NotIn => .notin
def primOf (x : Str) (n : Nat) : Option Prim :=
  if x = "len" then (if n = 1 then some .len else none)
  else if x = "abs" then (if n = 1 then some .abs else none)
  else if x = "int" then (if n = 1 then some .int else none)
  else if x = "sum" then (if n = 1 then some .sum else none)
  else if x = "min" then (if n = 1 then some .min1 else if n = 2 then some .min2 else none)
  else if x = "max" then (if n = 1 then some .max1 else if n = 2 then some .max2 else none)
  else if x = "sorted" then (if n = 1 then some .sorted else none)
  else if x = "tuple" then (if n = 1 then some .tuple else none)
  else if x = "list" then (if n = 1 then some .list else none)
  else if x = "all" then (if n = 1 then some .all1 else none)
  else if x = "any" then (if n = 1 then some .any1 else none)
  else none
def isiOf (x : Str) : Option Prim :=
  if x = "int" then some .isInt
  else if x = "bool" then some .isBool
  else if x = "str" then some .isStr
  else if x = "tuple" then some .isTup
  else none
def methOf (m : Str) (n : Nat) : Option Prim :=
  if m = "index" then (if n = 1 then some .index else none)
  else if m = "count" then (if n = 1 then some .count else none)
  else if m = "startswith" then (if n = 1 then some .starts else none)
  else if m = "endswith" then (if n = 1 then some .ends else none)
  else if m = "join" then (if n = 1 then some .join else none)
  else none
/-- the names that an expression speaks of -/
def spk : Nat → Expr → List Str
  | 0, _ => []
  | n + 1, e => match e with
    | .Name x _ => [x]
    | .ListComp a gs _ _ => spk n a ++ gs.flatMap fun g => spk n g.iter ++ g.ifs.flatMap (spk n)
    | .GeneratorExp a gs _ _ => spk n a ++ gs.flatMap fun g => spk n g.iter ++ g.ifs.flatMap (spk n)
    | .DictComp a b gs _ _ => spk n a ++ spk n b ++ gs.flatMap fun g => spk n g.iter ++ g.ifs.flatMap (spk n)
    | .Call f args kws _ => spk n f ++ args.flatMap (spk n) ++ kws.flatMap fun k => spk n k.value
    | .Attribute e _ _ => spk n e
    | .BinOp a _ b _ => spk n a ++ spk n b
    | .UnaryOp _ a _ => spk n a
    | .Tuple es _ _ => es.flatMap (spk n)
    | .List es _ => es.flatMap (spk n)
    | .Dict ks vs _ => (ks.flatMap fun o => match o with | some k => spk n k | none => []) ++ vs.flatMap (spk n)
    | .Compare a _ es _ => spk n a ++ es.flatMap (spk n)
    | .BoolOp _ es _ => es.flatMap (spk n)
    | .IfExp a b c _ => spk n a ++ spk n b ++ spk n c
    | .Subscript a b _ => spk n a ++ spk n b
    | .Slice a b c _ => (match a with | some e => spk n e | none => []) ++ (match b with | some e => spk n e | none => []) ++ (match c with | some e => spk n e | none => [])
    | _ => []
def inC (C : Cc) (scope : Scope) : Cc := { C with wr := fun x => scope.names.lookup x == some .cell }
def inG (C : Cc) (l : Nat) (scope : Scope) : Cc := { C with lv := l, wr := fun x => scope.names.lookup x == some .cell }
def mdOf (C : Cc) (e : Expr) : Bool := (spk 60 e).any C.mu.contains
/-- the names of a target with their slots -/
def cTg (C : Cc) (sc : Scope) : Nat → Expr → Option T
  | 0, _ => none
  | n + 1, e => match e with
    | .Name x _ => (slotW C sc x).map .nm
    | .Tuple es _ _ => (es.mapM (cTg C sc n)).map .tp
    | _ => none
def tgSlots : Nat → T → List Nat
  | 0, _ => []
  | n + 1, t => match t with
    | .nm i => [i]
    | .tp ts => ts.flatMap (tgSlots n)
/-- the slots of a block's own names -/
def ownOf (C : Cc) (scope : Scope) : List (Str × Nat) := scope.names.filterMap fun (n, k) => match k with
  | .local => (posOf n C.N 0).map fun i => (n, i)
  | .cell => (posOf n C.N 0).map fun i => (n, i)
  | _ => none
def isGen : Expr → Option (Expr × List Comprehension × Scope)
  | .GeneratorExp elt gens scope _ => some (elt, gens, scope)
  | _ => none
def isLC : Expr → Bool
  | .ListComp .. => true
  | _ => false
mutual
/-- values; box: a list made by the expression itself is an object of the store -/
def cE (C : Cc) : Nat → Scope → Bool → Expr → Option E
  | 0, _, _, _ => none
  | n + 1, sc, box, e => match e with
    | .Constant c _ _ => (match c with
      | .none => some (.lit .non)
      | .bool b => some (.lit (.bl b))
      | .int i => some (.lit (.int i))
      | .str s => some (.lit (.str s.cps.toList))
      | _ => none)
    | .Name x _ => (slotR C sc x).map .var
    | .Tuple es _ _ => (match fewE es with | true => (cEs C n sc es).map (.tup (C.fz && es.all litE)) | false => none)
    | .List es _ => (match fewE es with | true => (cEs C n sc es).map (.lst box) | false => none)
    | .Dict ks vs _ => (cKV C n sc ks vs).map (.dct box)
    | .BinOp a op b _ => (match bopOf op, cE C n sc false a, cE C n sc false b with
      | some o, some x, some y => some (.bin o box x y)
      | _, _, _ => none)
    | .UnaryOp op a _ => (match op with
      | .USub => (cE C n sc false a).map .neg
      | .Not => (cE C n sc false a).map fun x => .not_ (.tru x)
      | _ => none)
    | .Compare a ops cs _ => (match ops, cs with
      | [op], [b] => (match cE C n sc false a, cE C n sc false b with
        | some x, some y => some (.cmp (copOf op) x y)
        | _, _ => none)
      | [op, op'], [b, c] => (match cE C n sc false a, cE C n sc false b, cE C n sc false c with
        | some x, some y, some z => some (.chain (copOf op) (copOf op') x y z)
        | _, _, _ => none)
      | [op, op', op2], [b, c, d] => (match cE C n sc false a, cE C n sc false b, cE C n sc false c, cE C n sc false d with
        | some x, some y, some z, some u => some (.chain3 (copOf op) (copOf op') (copOf op2) x y z u)
        | _, _, _, _ => none)
      | _, _ => none)
    | .BoolOp op vs _ => (match vs with
      | [] => none
      | v :: r => cBool C n sc op v r)
    | .IfExp c a b _ => (match cT C n sc c, cE C n sc box a, cE C n sc box b with
      | some x, some y, some z => some (.ite x y z)
      | _, _, _ => none)
    | .Subscript a i _ => (match i with
      | .Slice lo hi st _ => (match st with
        | none => (match cE C n sc false a, cO C n sc lo, cO C n sc hi with
          | some x, some l, some h => some (.slc box x l h)
          | _, _, _ => none)
        | some (.UnaryOp .USub (.Constant (.int 1) _ _) _) => (match lo with
          | none => (match cE C n sc false a, cO C n sc hi with
            | some x, some h => some (.slr box x h)
            | _, _ => none)
          | some _ => none)
        | some _ => none)
      | i => (match cE C n sc false a, cE C n sc false i with
        | some x, some y => some (.ix x y)
        | _, _ => none))
    | .ListComp elt gens scope _ => (match gens with
      | [⟨t, it, ifs, 0⟩] => (match cI C n sc it, cTg (inC C scope) (relB scope sc) 8 t, cE (inC C scope) n (relB scope sc) false elt, cTs (inC C scope) n (relB scope sc) ifs with
        | some i, some tg, some e', some fs => some (.pur (mdOf C e) box (.comp e' ((ownOf C scope).map (·.2)) tg i fs))
        | _, _, _, _ => none)
      | [⟨t, it, ifs, 0⟩, ⟨t2, it2, ifs2, 0⟩] => (match cI C n sc it, cTg (inC C scope) (relB scope sc) 8 t, cE (inC C scope) n (relB scope sc) false elt, cTs (inC C scope) n (relB scope sc) ifs with
        | some i, some tg, some e', some fs => (match cI (inC C scope) n (relB scope sc) it2, cTg (inC C scope) (relB scope sc) 8 t2, cTs (inC C scope) n (relB scope sc) ifs2 with
          | some i2, some tg2, some fs2 => some (.pur (mdOf C e) box (.comp2 e' ((ownOf C scope).map (·.2)) (tgSlots 8 tg2) tg i fs tg2 i2 fs2))
          | _, _, _ => none)
        | _, _, _, _ => none)
      | _ => none)
    | .DictComp k v gens scope _ => (match gens with
      | [⟨t, it, ifs, 0⟩] => (match cI C n sc it, cTg (inC C scope) (relB scope sc) 8 t, cE (inC C scope) n (relB scope sc) false k, cE (inC C scope) n (relB scope sc) false v, cTs (inC C scope) n (relB scope sc) ifs with
        | some i, some tg, some k', some v', some fs => some (.pur (mdOf C e) box (.dcomp k' v' ((ownOf C scope).map (·.2)) tg i fs))
        | _, _, _, _, _ => none)
      | _ => none)
    | .Call f args kws _ => (match kws with
      | [] => cCall C n sc box f args
      | [⟨some kw, v, _⟩] => (match f, args with
        | .Name g _, [a] => (match isGl sc g with
          | true => if g = "sorted" ∧ kw = "reverse" then (match v, cE C n sc false a with
              | .Constant (.bool true) _ _, some x => some (.prim .sortedR box [x])
              | _, _ => none)
            else if (g = "min" ∨ g = "max") ∧ kw = "default" then (match cE C n sc false a, cE C n sc false v with
              | some x, some y => some (.prim (if g = "min" then .minD else .maxD) false [x, y])
              | _, _ => none)
            else none
          | false => none)
        | _, _ => none)
      | _ => none)
    | _ => none
/-- calls without keywords -/
def cCall (C : Cc) : Nat → Scope → Bool → Expr → List Expr → Option E
  | 0, _, _, _, _ => none
  | n + 1, sc, box, f, args => match f with
    | .Name g _ => (match isGl sc g with
      | false => none
      | true => (match posOf g C.fns 0 with
        | some k => (match C.refs.contains g, args with
          | true, .Name x _ :: r => (match slotR C sc x, cEs C n sc r with
            | some i, some es => some (.callr k i es)
            | _, _ => none)
          | true, _ => none
          | false, _ => (cEs C n sc args).map (.call k))
        | none => if g = "gcd" then (cEs C n sc args).map (.prim .gcd false)
          else if g = "isinstance" then (match args with
            | [a, .Name t _] => (match isGl sc t, isiOf t, cE C n sc false a with
              | true, some p, some x => some (.prim p false [x])
              | _, _, _ => none)
            | _ => none)
          else (match args with
            | [.GeneratorExp elt gens scope gp] => (match C.lv with
              | 0 => none
              | l + 1 => (match gens with
                | [⟨t, it, ifs, 0⟩] => (match cI C n sc it, cTg (inG C l scope) scope 8 t, cE (inG C l scope) n scope false elt, cTs (inG C l scope) n scope ifs with
                  | some i, some tg, some e', some fs => if g = "all" then some (.pur true false (.all_ e' ((ownOf C scope).map (·.2)) tg i fs)) else if g = "any" then some (.pur true false (.any_ e' ((ownOf C scope).map (·.2)) tg i fs)) else none
                  | _, _, _, _ => none)
                | [⟨t, it, ifs, 0⟩, ⟨t2, it2, ifs2, 0⟩] => (match cI C n sc it, cTg (inG C l scope) scope 8 t, cE (inG C l scope) n scope false elt, cTs (inG C l scope) n scope ifs with
                  | some i, some tg, some e', some fs => (match cI (inG C l scope) n scope it2, cTg (inG C l scope) scope 8 t2, cTs (inG C l scope) n scope ifs2 with
                    | some i2, some tg2, some fs2 => if g = "all" then some (.pur true false (.all2 e' ((ownOf C scope).map (·.2)) (tgSlots 8 tg2) tg i fs tg2 i2 fs2)) else if g = "any" then some (.pur true false (.any2 e' ((ownOf C scope).map (·.2)) (tgSlots 8 tg2) tg i fs tg2 i2 fs2)) else none
                    | _, _, _ => none)
                  | _, _, _, _ => none)
                | _ => none))
            | [.Call (.Name h _) hargs [] _] => if isGl sc h ∧ h = "set" ∧ (g = "len" ∨ g = "sorted") then (cEs C n sc hargs).map (.prim (if g = "len" then .lenSet else .sortedSet) box)
              else if isGl sc h ∧ (posOf h C.fns 0).isNone ∧ (h = "range" ∨ h = "combinations" ∨ h = "permutations" ∨ h = "zip" ∨ h = "enumerate" ∨ h = "reversed") then (match args with
                | [a] => (match cI C n sc a with
                  | some i => if g = "list" then some (.ofIt false box i) else if g = "tuple" then some (.ofIt true false i) else none
                  | none => none)
                | _ => none)
              else (match primOf g args.length with
                | some p => (cEs C n sc args).map (.prim p box)
                | none => none)
            | _ => (match primOf g args.length with
              | some p => (cEs C n sc args).map (.prim p box)
              | none => none))))
    | .Attribute o m _ => (match o, m, args with
      | .Name x _, _, [a] => if m = "append" then (match slotR C sc x, cE C n sc false a with
            | some i, some e => some (.push i e)
            | _, _ => none)
          else if m = "extend" then (match slotR C sc x, cE C n sc false a with
            | some i, some e => some (.extend i e)
            | _, _ => none)
          else if m = "get" then (match slotR C sc x, cE C n sc false a with
            | some i, some e => some (.dget (.var i) e (.lit .non))
            | _, _ => none)
          else (match methOf m 1, slotR C sc x, cE C n sc false a with
            | some p, some i, some e => some (.meth p (.var i) e)
            | _, _, _ => none)
      | .Name x _, _, [] => if m = "pop" then (slotR C sc x).map .pop1 else none
      | o, _, [a] => if m = "get" then (match cE C n sc false o, cE C n sc false a with
            | some d, some e => some (.dget d e (.lit .non))
            | _, _ => none)
          else (match methOf m 1, cE C n sc false o, cE C n sc false a with
            | some p, some i, some e => some (.meth p i e)
            | _, _, _ => none)
      | o, _, [a, b] => if m = "get" then (match cE C n sc false o, cE C n sc false a, cE C n sc false b with
            | some d, some e, some z => some (.dget d e z)
            | _, _, _ => none)
          else none
      | _, _, _ => none)
    | _ => none
/-- and, or of values that are bools -/
def cBool (C : Cc) : Nat → Scope → BoolOp → Expr → List Expr → Option E
  | 0, _, _, _, _ => none
  | n + 1, sc, op, v, r => match r with
    | [] => cE C n sc false v
    | v2 :: r2 => (match cE C n sc false v, cBool C n sc op v2 r2 with
      | some x, some y => (match op with
        | .And => some (.and_ x y)
        | .Or => some (.or_ x y))
      | _, _ => none)
def cBoolT (C : Cc) : Nat → Scope → BoolOp → Expr → List Expr → Option E
  | 0, _, _, _, _ => none
  | n + 1, sc, op, v, r => match r with
    | [] => cT C n sc v
    | v2 :: r2 => (match cT C n sc v, cBoolT C n sc op v2 r2 with
      | some x, some y => (match op with
        | .And => some (.and_ x y)
        | .Or => some (.or_ x y))
      | _, _ => none)
/-- tests -/
def cT (C : Cc) : Nat → Scope → Expr → Option E
  | 0, _, _ => none
  | n + 1, sc, e => match e with
    | .BoolOp op vs _ => (match vs with
      | [] => none
      | v :: r => cBoolT C n sc op v r)
    | .UnaryOp .Not a _ => (cT C n sc a).map .not_
    | .Compare _ _ _ _ => cE C n sc false e
    | .IfExp c a b _ => (match cT C n sc c, cT C n sc a, cT C n sc b with
      | some x, some y, some z => some (.ite x y z)
      | _, _, _ => none)
    | _ => (cE C n sc false e).map .tru
def cTs (C : Cc) : Nat → Scope → List Expr → Option (List E)
  | 0, _, _ => none
  | n + 1, sc, es => match es with
    | [] => some []
    | e :: r => (match cT C n sc e, cTs C n sc r with
      | some x, some xs => some (x :: xs)
      | _, _ => none)
def cEs (C : Cc) : Nat → Scope → List Expr → Option (List E)
  | 0, _, _ => none
  | n + 1, sc, es => match es with
    | [] => some []
    | e :: r => (match cE C n sc false e, cEs C n sc r with
      | some x, some xs => some (x :: xs)
      | _, _ => none)
def cO (C : Cc) : Nat → Scope → Option Expr → Option (Option E)
  | 0, _, _ => none
  | n + 1, sc, o => match o with
    | none => some none
    | some e => (cE C n sc false e).map some
def cKV (C : Cc) : Nat → Scope → List (Option Expr) → List Expr → Option (List E)
  | 0, _, _, _ => none
  | n + 1, sc, ks, vs => match ks, vs with
    | [], [] => some []
    | some k :: ks, v :: vs => (match cE C n sc false k, cE C n sc false v, cKV C n sc ks vs with
      | some x, some y, some r => some (x :: y :: r)
      | _, _, _ => none)
    | _, _ => none
/-- what is walked -/
def cI (C : Cc) : Nat → Scope → Expr → Option E
  | 0, _, _ => none
  | n + 1, sc, e => match e with
    | .Call f args kws _ => (match kws with
      | [] => (match f with
        | .Name g _ => (match isGl sc g && (posOf g C.fns 0).isNone with
          | true => if g = "range" then (match cEs C n sc args with
              | some [a] => some (.rng1 a)
              | some [a, b] => some (.rng2 a b)
              | some [a, b, c] => some (.rng3 a b c)
              | _ => none)
            else if g = "enumerate" then (match cEs C n sc args with
              | some [a] => some (.enum a)
              | _ => none)
            else if g = "zip" then (match cEs C n sc args with
              | some [a, b] => some (.zip a b)
              | some [a, b, c] => some (.zip3 a b c)
              | _ => none)
            else if g = "reversed" then (match cEs C n sc args with
              | some [a] => some (.revd a)
              | _ => none)
            else if g = "combinations" then (match args with
              | [a, b] => (match cI C n sc a, cE C n sc false b with
                | some x, some y => some (.combs x y)
                | _, _ => none)
              | _ => none)
            else if g = "permutations" then (match args with
              | [a] => (cI C n sc a).map .perms
              | [a, b] => (match cI C n sc a, cE C n sc false b with
                | some x, some y => some (.permsK x y)
                | _, _ => none)
              | _ => none)
            else (cE C n sc false e).map .walk
          | false => (cE C n sc false e).map .walk)
        | .Attribute o m _ => (match args with
          | [] => if m = "items" then (cE C n sc false o).map .items
            else if m = "keys" then (cE C n sc false o).map .keys
            else if m = "values" then (cE C n sc false o).map .vals
            else (cE C n sc false e).map .walk
          | _ => (cE C n sc false e).map .walk)
        | _ => none)
      | _ => (cE C n sc false e).map .walk)
    | _ => (cE C n sc false e).map .walk
end
/-! statements -/
def isNm : Expr → Option Str
  | .Name x _ => some x
  | _ => none
/-- a, b = .. of local names, stored from the right -/
def folded : Nat → Expr → Bool
  | _, .Constant .. => true
  | _, .UnaryOp _ (.Constant (.int _) _ _) _ | _, .UnaryOp _ (.Constant (.float _) _ _) _ | _, .UnaryOp _ (.Constant (.bool _) _ _) _ | _, .UnaryOp _ (.Constant (.complex _ _) _ _) _ => true
  | n + 1, .Tuple es _ _ => es.all (folded n)
  | _, _ => false
def parNames (sc : Scope) (ts : List Expr) : Option (List Str) :=
  let line := (ts.head?.map (·.pos.line)).getD 0
  ts.mapM fun
    | .Name id pos => if sc.names.lookup id == some .local && pos.line == line then some id else none
    | _ => none
mutual
def cS (C : Cc) : Nat → Scope → Stmt → Option S
  | 0, _, _ => none
  | n + 1, sc, s => match s with
    | .Assign [t] e _ => (match t with
      | .Name x _ => (match slotW C sc x, cE C 100 sc (C.mu.contains x) e with
        | some i, some e' => some (.asg (.nm i) e')
        | _, _ => none)
      | .Tuple ts _ _ => (match e with
        | .Tuple es _ _ => (match parNames sc ts with
          | some names => if (ts.length = 2 ∨ ts.length = 3) ∧ es.length = ts.length ∧ names.Nodup ∧ es.all (folded 8) = false then (match names.mapM (slotW C sc), cEs C 100 sc es with
              | some is, some es' => some (.par is es')
              | _, _ => none)
            else (match cTg C sc 8 t, cE C 100 sc false e with
              | some tg, some e' => some (.asg tg e')
              | _, _ => none)
          | none => (match ts, es with
            | [.Subscript (.Name a _) i _, .Subscript (.Name b _) j _], [x, y] => (match slotR C sc a, cE C 100 sc false i, slotR C sc b, cE C 100 sc false j with
              | some a', some i', some b', some j' => (match cE C 100 sc false x, cE C 100 sc false y with
                | some x', some y' => some (.set2 a' i' b' j' x' y')
                | _, _ => none)
              | _, _, _, _ => none)
            | _, _ => (match cTg C sc 8 t, cE C 100 sc false e with
              | some tg, some e' => some (.asg tg e')
              | _, _ => none)))
        | _ => (match cTg C sc 8 t, cE C 100 sc false e with
          | some tg, some e' => some (.asg tg e')
          | _, _ => none))
      | .Subscript (.Name a _) i _ => (match slotR C sc a, cE C 100 sc false i, cE C 100 sc false e with
        | some a', some i', some e' => some (.setI a' i' e')
        | _, _, _ => none)
      | _ => none)
    | .AugAssign t op e _ => (match bopOf op with
      | none => none
      | some o => (match t with
        | .Name x _ => (match slotW C sc x, cE C 100 sc false e with
          | some i, some e' => some (.aug o i e')
          | _, _ => none)
        | .Subscript (.Name a _) i _ => (match slotR C sc a, cE C 100 sc false i, cE C 100 sc false e with
          | some a', some i', some e' => some (.augI o a' i' e')
          | _, _, _ => none)
        | _ => none))
    | .Expr e _ => (match e with
      | .Call (.Attribute (.Subscript (.Name a _) i _) m _) [x] [] _ => if m = "append" then (match slotR C sc a, cE C 100 sc false i, cE C 100 sc false x with
          | some a', some i', some x' => some (.pushI a' i' x')
          | _, _, _ => none)
        else none
      | _ => (cE C 100 sc false e).map .ex)
    | .Return o _ => (match o with
      | some e => (cE C 100 sc false e).map .ret
      | none => some (.ret (.lit .non)))
    | .If c a b _ => (match cT C 100 sc c, cSs C n sc a, cSs C n sc b with
      | some c', some a', some b' => some (.ifs c' a' b')
      | _, _, _ => none)
    | .For t it b [] _ => (match cTg C sc 8 t, cI C 100 sc it, cSs C n sc b with
      | some t', some i', some b' => some (.for_ t' i' b')
      | _, _, _ => none)
    | .While c b [] _ => (match cT C 100 sc c, cSs C n sc b with
      | some c', some b' => some (.while_ c' b')
      | _, _ => none)
    | .Break _ => some .brk
    | .Continue _ => some .cont
    | .Pass _ => some .pass
    | _ => none
def cSs (C : Cc) : Nat → Scope → List Stmt → Option (List S)
  | 0, _, _ => none
  | n + 1, sc, ss => match ss with
    | [] => some []
    | s :: r => (match cS C n sc s, cSs C n sc r with
      | some x, some xs => some (x :: xs)
      | _, _ => none)
end
/-! names that are changed in a body -/
mutual
def muE : Nat → List Str → Expr → List Str
  | 0, _, _ => []
  | n + 1, refs, e => match e with
    | .Call (.Attribute (.Name x _) m _) args _ _ => (if m = "append" ∨ m = "extend" ∨ m = "pop" ∨ m = "remove" then [x] else []) ++ args.flatMap (muE n refs)
    | .Call (.Name f _) (.Name x p :: r) _ _ => (if refs.contains f then [x] else []) ++ r.flatMap (muE n refs)
    | .Call f args _ _ => args.flatMap (muE n refs)
    | .BinOp a _ b _ => muE n refs a ++ muE n refs b
    | .UnaryOp _ a _ => muE n refs a
    | .Tuple es _ _ => es.flatMap (muE n refs)
    | .List es _ => es.flatMap (muE n refs)
    | .Compare a _ es _ => muE n refs a ++ es.flatMap (muE n refs)
    | .BoolOp _ es _ => es.flatMap (muE n refs)
    | .IfExp a b c _ => muE n refs a ++ muE n refs b ++ muE n refs c
    | .Subscript a b _ => muE n refs a ++ muE n refs b
    | .ListComp a _ _ _ => muE n refs a
    | _ => []
def muS : Nat → List Str → Stmt → List Str
  | 0, _, _ => []
  | n + 1, refs, s => match s with
    | .Assign ts e _ => ts.flatMap (muT n) ++ muE n refs e
    | .AugAssign (.Subscript (.Name x _) _ _) _ e _ => x :: muE n refs e
    | .AugAssign _ _ e _ => muE n refs e
    | .Expr (.Call (.Attribute (.Subscript (.Name x _) _ _) _ _) _ _ _) _ => [x]
    | .Expr e _ => muE n refs e
    | .Return (some e) _ => muE n refs e
    | .If c a b _ => muE n refs c ++ a.flatMap (muS n refs) ++ b.flatMap (muS n refs)
    | .For _ it b _ _ => muE n refs it ++ b.flatMap (muS n refs)
    | .While c b _ _ => muE n refs c ++ b.flatMap (muS n refs)
    | _ => []
def muT : Nat → Expr → List Str
  | 0, _ => []
  | n + 1, e => match e with
    | .Subscript (.Name x _) _ _ => [x]
    | .Tuple es _ _ => es.flatMap (muT n)
    | _ => []
end
/-! comprehension's own names -/
mutual
def nmE : Nat → Expr → List Str
  | 0, _ => []
  | n + 1, e => match e with
    | .ListComp a gs sc _ => ownN sc ++ nmE n a ++ gs.flatMap (nmG n)
    | .GeneratorExp a gs sc _ => ownN sc ++ nmE n a ++ gs.flatMap (nmG n)
    | .DictComp a b gs sc _ => ownN sc ++ nmE n a ++ nmE n b ++ gs.flatMap (nmG n)
    | .Call f args kws _ => nmE n f ++ args.flatMap (nmE n) ++ kws.flatMap fun k => nmE n k.value
    | .Attribute e _ _ => nmE n e
    | .BinOp a _ b _ => nmE n a ++ nmE n b
    | .UnaryOp _ a _ => nmE n a
    | .Tuple es _ _ => es.flatMap (nmE n)
    | .List es _ => es.flatMap (nmE n)
    | .Dict ks vs _ => (ks.flatMap fun o => match o with | some k => nmE n k | none => []) ++ vs.flatMap (nmE n)
    | .Compare a _ es _ => nmE n a ++ es.flatMap (nmE n)
    | .BoolOp _ es _ => es.flatMap (nmE n)
    | .IfExp a b c _ => nmE n a ++ nmE n b ++ nmE n c
    | .Subscript a b _ => nmE n a ++ nmE n b
    | .Slice a b c _ => nmO n a ++ nmO n b ++ nmO n c
    | _ => []
def nmO : Nat → Option Expr → List Str
  | 0, _ => []
  | n + 1, o => match o with
    | some e => nmE n e
    | none => []
def nmG : Nat → Comprehension → List Str
  | 0, _ => []
  | n + 1, g => match g with
    | ⟨_, it, ifs, _⟩ => nmE n it ++ ifs.flatMap (nmE n)
def nmS : Nat → Stmt → List Str
  | 0, _ => []
  | n + 1, s => match s with
    | .Assign ts e _ => ts.flatMap (nmE n) ++ nmE n e
    | .AugAssign t _ e _ => nmE n t ++ nmE n e
    | .Expr e _ => nmE n e
    | .Return (some e) _ => nmE n e
    | .If c a b _ => nmE n c ++ a.flatMap (nmS n) ++ b.flatMap (nmS n)
    | .For _ it b _ _ => nmE n it ++ b.flatMap (nmS n)
    | .While c b _ _ => nmE n c ++ b.flatMap (nmS n)
    | _ => []
def ownN (sc : Scope) : List Str := sc.names.filterMap fun (n, k) => match k with
  | .local => if n = ".0" then none else some n
  | .cell => some n
  | _ => none
end
/-! the module -/
def defN : Stmt → Option Str
  | .FunctionDef n _ _ _ _ _ _ _ _ _ => some n
  | _ => none
def defPs : Stmt → List Str
  | .FunctionDef _ a _ _ _ _ _ _ _ _ => a.args.map (·.arg)
  | _ => []
def defB : Stmt → List Stmt
  | .FunctionDef _ _ b _ _ _ _ _ _ _ => b
  | _ => []
def defSc : Stmt → Scope
  | .FunctionDef _ _ _ _ _ _ sc _ _ _ => sc
  | _ => default
/-- a def's slots: parameters, its other names, its comprehensions' names -/
def slotsOf (s : Stmt) : List Str := (defPs s ++ ownN (defSc s) ++ (defB s).flatMap (nmS 60)).eraseDups
def cFn (fz fns refs : List Str) (s : Stmt) : Option Fn :=
  let N := slotsOf s
  let C : Cc := ⟨fz.contains ((defN s).getD default), 1, fun _ => true, N, fns, refs, ((defB s).flatMap (muS 60 refs)).eraseDups, []⟩
  (cSs C 100 (defSc s) (defB s)).map fun b => ⟨(defPs s).length, N.length, b, none⟩
end Rf
/-! Rf3: how data stand in the abstract heap; the evaluator's reading. -/
namespace Rf
open PySem PySem.Spec PyProof.Rows L2
def kD : Key → D
  | .inl i => .int i
  | .inr x => .str x.cps.toList
/-- a tuple at a -/
def TupAt (F : Hp) : Bool → Addr → List V → Prop
  | false, a, vs => F a = some (.tup vs)
  | true, a, vs => ∃ o, F a = some (.frz o (.tup vs)) ∧ o.dict = none
/-- neither a tuple nor known to the object -/
def NT (o : HO) : Prop := (∀ xs, o ≠ .tup xs) ∧ ∀ b u, o ≠ .frz b u
theorem nt_lst {xs : List V} : NT (.lst xs) := ⟨fun _ z => (nomatch z), fun _ _ z => (nomatch z)⟩
theorem nt_dK {xs : List (Key × V)} : NT (.dK xs) := ⟨fun _ z => (nomatch z), fun _ _ z => (nomatch z)⟩
theorem nt_dT {xs : List (List Key × V)} : NT (.dT xs) := ⟨fun _ z => (nomatch z), fun _ _ z => (nomatch z)⟩
mutual
/-- the data that v is, all of its objects in F -/
def RD (F : Hp) : D → V → Prop
  | .non, v => v = .non
  | .bl b, v => v = .bl b
  | .int i, v => v = .int i
  | .str s, v => v = .str ⟨s.toArray⟩
  | .tup k ds, v => ∃ a vs, v = .ref a ∧ TupAt F k a vs ∧ RDs F ds vs
  | .lst ds, v => ∃ a vs, v = .ref a ∧ F a = some (.lst vs) ∧ RDs F ds vs
  | .dct ks ws, v => ∃ a vs, v = .ref a ∧ RDs F ws vs ∧ ((∃ kvs : List (Key × V), F a = some (.dK kvs) ∧ ks = kvs.map (fun p => kD p.1) ∧ vs = kvs.map (·.2)) ∨ ∃ kvs : List (List Key × V), kvs ≠ [] ∧ F a = some (.dT kvs) ∧ ks = kvs.map (fun p => .tup false (p.1.map kD)) ∧ vs = kvs.map (·.2))
def RDs (F : Hp) : List D → List V → Prop
  | [], vs => vs = []
  | d :: ds, vs => ∃ v r, vs = v :: r ∧ RD F d v ∧ RDs F ds r
end
def Le (F F' : Hp) : Prop := ∀ a o, F a = some o → F' a = some o
theorem Le.refl {F : Hp} : Le F F := fun _ _ h => h
theorem Le.trans {F G H : Hp} (a : Le F G) (b : Le G H) : Le F H := fun x o h => b x o (a x o h)
theorem Le.upd {F : Hp} {p : Addr} {o : HO} (h : F p = none) : Le F (upd F p o) := fun a u e => by rw [upd_ne (ne_of_none e h)]; exact e
theorem TupAt.le {F F' : Hp} (l : Le F F') : ∀ {k : Bool} {a : Addr} {vs : List V}, TupAt F k a vs → TupAt F' k a vs
  | false, a, vs, h => l a _ h
  | true, a, vs, ⟨o, h, d⟩ => ⟨o, l a _ h, d⟩
theorem TupAt.rd {F : Hp} : ∀ {k : Bool} {a : Addr} {vs : List V}, TupAt F k a vs → Rd F a (.tup vs)
  | false, a, vs, h => .inl h
  | true, a, vs, ⟨o, h, d⟩ => .inr ⟨o, h⟩
theorem TupAt.sq {K : PySem.W.Frag} {F H : Hp} (l : Le F H) {k : Bool} {a : Addr} {vs : List V} (h : TupAt F k a vs) : SqT K H a vs := .inl (h.le l).rd
mutual
theorem RD.le {F F' : Hp} (l : Le F F') : ∀ {d : D} {v : V}, RD F d v → RD F' d v
  | .non, _, h => h
  | .bl _, _, h => h
  | .int _, _, h => h
  | .str _, _, h => h
  | .tup k ds, v, h => by
    obtain ⟨a, vs, e, h1, h2⟩ := h
    exact ⟨a, vs, e, h1.le l, RDs.le l h2⟩
  | .lst ds, v, h => by
    obtain ⟨a, vs, e, h1, h2⟩ := h
    exact ⟨a, vs, e, l _ _ h1, RDs.le l h2⟩
  | .dct ks ws, v, h => by
    obtain ⟨a, vs, e, h1, h2⟩ := h
    refine ⟨a, vs, e, RDs.le l h1, ?_⟩
    rcases h2 with ⟨kvs, h3, h4⟩ | ⟨kvs, hn, h3, h4⟩
    · exact .inl ⟨kvs, l _ _ h3, h4⟩
    · exact .inr ⟨kvs, hn, l _ _ h3, h4⟩
theorem RDs.le {F F' : Hp} (l : Le F F') : ∀ {ds : List D} {vs : List V}, RDs F ds vs → RDs F' ds vs
  | [], _, h => h
  | d :: ds, vs, h => by
    obtain ⟨v, r, e, h1, h2⟩ := h
    exact ⟨v, r, e, RD.le l h1, RDs.le l h2⟩
end
theorem RDs.length {F : Hp} : ∀ {ds : List D} {vs : List V}, RDs F ds vs → vs.length = ds.length
  | [], _, h => by cases h; rfl
  | d :: ds, vs, h => by
    obtain ⟨v, r, rfl, _, h2⟩ := h
    simp [RDs.length h2]
theorem RDs.nil {F : Hp} : RDs F [] [] := rfl
theorem RDs.cons {F : Hp} {d : D} {ds : List D} {v : V} {vs : List V} (h : RD F d v) (t : RDs F ds vs) : RDs F (d :: ds) (v :: vs) := ⟨v, vs, rfl, h, t⟩
theorem RDs.append {F : Hp} : ∀ {ds es : List D} {vs us : List V}, RDs F ds vs → RDs F es us → RDs F (ds ++ es) (vs ++ us)
  | [], _, _, _, h, g => by cases h; exact g
  | d :: ds, _, _, _, h, g => by
    obtain ⟨v, r, rfl, h1, h2⟩ := h
    exact RDs.cons h1 (RDs.append h2 g)
theorem RDs.nth {F : Hp} : ∀ {ds : List D} {vs : List V} {i : Nat} {d : D}, RDs F ds vs → nth ds i = some d → ∃ v, vs[i]? = some v ∧ RD F d v
  | [], _, _, _, _, e => by cases e
  | x :: ds, vs, 0, d, h, e => by
    obtain ⟨v, r, rfl, h1, h2⟩ := h
    cases e
    exact ⟨v, rfl, h1⟩
  | x :: ds, vs, i + 1, d, h, e => by
    obtain ⟨v, r, rfl, h1, h2⟩ := h
    obtain ⟨u, h3, h4⟩ := RDs.nth (i := i) h2 e
    exact ⟨u, by simpa using h3, h4⟩
theorem nth_eq {α : Type} : ∀ (xs : List α) (i : Nat), nth xs i = xs[i]?
  | [], _ => by simp [nth]
  | x :: xs, 0 => by simp [nth]
  | x :: xs, i + 1 => by simp [nth, nth_eq xs i]
theorem RDs.setL {F : Hp} : ∀ {ds : List D} {vs : List V} {i : Nat} {d : D} {v : V}, RDs F ds vs → RD F d v → RDs F (setL ds i d) (vs.set i v)
  | [], _, _, _, _, h, _ => by cases h; exact rfl
  | x :: ds, vs, 0, d, v, h, g => by
    obtain ⟨u, r, rfl, h1, h2⟩ := h
    exact RDs.cons g h2
  | x :: ds, vs, i + 1, d, v, h, g => by
    obtain ⟨u, r, rfl, h1, h2⟩ := h
    exact RDs.cons h1 (RDs.setL h2 g)
theorem RDs.drop {F : Hp} : ∀ {ds : List D} {vs : List V} (n : Nat), RDs F ds vs → RDs F (ds.drop n) (vs.drop n)
  | ds, vs, 0, h => h
  | [], vs, n + 1, h => by cases h; exact rfl
  | x :: ds, vs, n + 1, h => by
    obtain ⟨u, r, rfl, h1, h2⟩ := h
    exact RDs.drop n h2
theorem RDs.take {F : Hp} : ∀ {ds : List D} {vs : List V} (n : Nat), RDs F ds vs → RDs F (ds.take n) (vs.take n)
  | ds, vs, 0, h => rfl
  | [], vs, n + 1, h => by cases h; exact rfl
  | x :: ds, vs, n + 1, h => by
    obtain ⟨u, r, rfl, h1, h2⟩ := h
    exact RDs.cons h1 (RDs.take n h2)
theorem RDs.reverse {F : Hp} : ∀ {ds : List D} {vs : List V}, RDs F ds vs → RDs F ds.reverse vs.reverse
  | [], vs, h => by cases h; exact rfl
  | x :: ds, vs, h => by
    obtain ⟨u, r, rfl, h1, h2⟩ := h
    rw [List.reverse_cons, List.reverse_cons]
    exact RDs.append (RDs.reverse h2) (RDs.cons h1 rfl)
theorem RDs.rep {F : Hp} {ds : List D} {vs : List V} (h : RDs F ds vs) : ∀ n : Nat, ∃ us, RDs F (rep ds n) us ∧ us = (List.replicate n vs).flatten
  | 0 => ⟨[], rfl, by simp⟩
  | n + 1 => by
    obtain ⟨us, h1, h2⟩ := RDs.rep h n
    exact ⟨vs ++ us, RDs.append h h1, by rw [h2, List.replicate_succ, List.flatten_cons]⟩
/-- data whose top object stands in H, its items in F -/
def RT (F H : Hp) : D → V → Prop
  | .lst ds, v => ∃ a vs, v = .ref a ∧ H a = some (.lst vs) ∧ RDs F ds vs
  | .dct ks ws, v => ∃ a vs, v = .ref a ∧ RDs F ws vs ∧ ((∃ kvs : List (Key × V), H a = some (.dK kvs) ∧ ks = kvs.map (fun p => kD p.1) ∧ vs = kvs.map (·.2)) ∨ ∃ kvs : List (List Key × V), kvs ≠ [] ∧ H a = some (.dT kvs) ∧ ks = kvs.map (fun p => .tup false (p.1.map kD)) ∧ vs = kvs.map (·.2))
  | d, v => RD F d v
theorem RD.rt {F H : Hp} (l : Le F H) : ∀ {d : D} {v : V}, RD F d v → RT F H d v
  | .non, _, h => h
  | .bl _, _, h => h
  | .int _, _, h => h
  | .str _, _, h => h
  | .tup k ds, v, h => h
  | .lst ds, v, h => by
    obtain ⟨a, vs, e, h1, h2⟩ := h
    exact ⟨a, vs, e, l _ _ h1, h2⟩
  | .dct ks ws, v, h => by
    obtain ⟨a, vs, e, h1, h2⟩ := h
    refine ⟨a, vs, e, h1, ?_⟩
    rcases h2 with ⟨kvs, h3, h4⟩ | ⟨kvs, hn, h3, h4⟩
    · exact .inl ⟨kvs, l _ _ h3, h4⟩
    · exact .inr ⟨kvs, hn, l _ _ h3, h4⟩
/-- data all of whose objects stand in H -/
theorem RT.rd {F H : Hp} (l : Le F H) : ∀ {d : D} {v : V}, RT F H d v → RD H d v
  | .non, _, h => h
  | .bl _, _, h => h
  | .int _, _, h => h
  | .str _, _, h => h
  | .tup k ds, v, h => RD.le (d := .tup k ds) l h
  | .lst ds, v, h => by
    obtain ⟨a, vs, e, h1, h2⟩ := h
    exact ⟨a, vs, e, h1, RDs.le l h2⟩
  | .dct ks ws, v, h => by
    obtain ⟨a, vs, e, h1, h2⟩ := h
    exact ⟨a, vs, e, RDs.le l h1, h2⟩
theorem RT.le {F F' H H' : Hp} (l : Le F F') (m : Le H H') : ∀ {d : D} {v : V}, RT F H d v → RT F' H' d v
  | .non, _, h => h
  | .bl _, _, h => h
  | .int _, _, h => h
  | .str _, _, h => h
  | .tup k ds, v, h => RD.le (d := .tup k ds) l h
  | .lst ds, v, h => by
    obtain ⟨a, vs, e, h1, h2⟩ := h
    exact ⟨a, vs, e, m _ _ h1, RDs.le l h2⟩
  | .dct ks ws, v, h => by
    obtain ⟨a, vs, e, h1, h2⟩ := h
    refine ⟨a, vs, e, RDs.le l h1, ?_⟩
    rcases h2 with ⟨kvs, h3, h4⟩ | ⟨kvs, hn, h3, h4⟩
    · exact .inl ⟨kvs, m _ _ h3, h4⟩
    · exact .inr ⟨kvs, hn, m _ _ h3, h4⟩
/-! ### values, slots, the store -/
def RW (F : Hp) (ρ : List Addr) : W → V → Prop
  | .d x, v => RD F x v
  | .ref n, v => ∃ a, ρ[n]? = some a ∧ v = .ref a
  | .un, _ => False
/-- an object of the store at a -/
def RO (F H : Hp) (a : Addr) : Ob → Prop
  | .lst ds => F a = none ∧ RT F H (.lst ds) (.ref a)
  | .dct ks ws => F a = none ∧ RT F H (.dct ks ws) (.ref a)
  | .dead => True
def RE (F : Hp) (ρ : List Addr) : Env → L2.St → Prop
  | [], [] => True
  | w :: r, o :: t => (w = .un ∨ ∃ v, o = some v ∧ RW F ρ w v) ∧ RE F ρ r t
  | _, _ => False
structure Rl (T : List Addr) (F : Hp) (ρ : List Addr) (st : St) (H : Hp) : Prop where
  sub : Le F H
  nT : ∀ a ∈ T, F a = none
  tab : ∀ a ∈ T, GxR.TabG H a
  len : ρ.length = st.length
  nd : ρ.Nodup
  nTr : ∀ a ∈ ρ, a ∉ T
  has : ∀ a ∈ ρ, ∃ o, H a = some o ∧ NT o
  obs : ∀ (i : Nat) (a : Addr) (ob : Ob), ρ[i]? = some a → st[i]? = some ob → RO F H a ob
/-- from (F, ρ, H) to (F', ρ', H') -/
structure Step (T : List Addr) (F : Hp) (ρ : List Addr) (H F' : Hp) (ρ' : List Addr) (H' : Hp) : Prop where
  le : Le F F'
  new : ∀ a o, F' a = some o → F a = some o ∨ H a = none ∨ a ∈ ρ
  grow : ∃ more, ρ' = ρ ++ more ∧ ∀ a ∈ more, H a = none
  pres : ∀ a o, H a = some o → a ∉ T → a ∉ ρ → H' a = some o
  dom : ∀ a o, H a = some o → ∃ o', H' a = some o'
theorem Step.refl {T : List Addr} {F : Hp} {ρ : List Addr} {H : Hp} : Step T F ρ H F ρ H :=
  ⟨Le.refl, fun _ _ h => .inl h, ⟨[], by simp, fun _ h => absurd h (by simp)⟩, fun _ _ h _ _ => h, fun _ o h => ⟨o, h⟩⟩
theorem Step.trans {T : List Addr} {F F1 F2 : Hp} {ρ ρ1 ρ2 : List Addr} {H H1 H2 : Hp} (a : Step T F ρ H F1 ρ1 H1) (b : Step T F1 ρ1 H1 F2 ρ2 H2) : Step T F ρ H F2 ρ2 H2 := by
  obtain ⟨m1, e1, n1⟩ := a.grow
  obtain ⟨m2, e2, n2⟩ := b.grow
  have back : ∀ x, H1 x = none → H x = none := fun x h => by
    cases q : H x with
    | none => rfl
    | some o =>
      obtain ⟨o', h'⟩ := a.dom x o q
      rw [h] at h'; cases h'
  refine ⟨a.le.trans b.le, fun x o h => ?_, ⟨m1 ++ m2, by rw [e2, e1, List.append_assoc], fun x h => ?_⟩, fun x o h hT hr => ?_, fun x o h => ?_⟩
  · rcases b.new x o h with h | h | h
    · exact a.new x o h
    · exact .inr (.inl (back x h))
    · rw [e1] at h
      rcases List.mem_append.mp h with h | h
      · exact .inr (.inr h)
      · exact .inr (.inl (n1 x h))
  · rcases List.mem_append.mp h with h | h
    · exact n1 x h
    · exact back x (n2 x h)
  · refine b.pres x o (a.pres x o h hT hr) hT fun z => ?_
    rw [e1] at z
    rcases List.mem_append.mp z with z | z
    · exact hr z
    · have := n1 x z
      rw [h] at this; cases this
  · obtain ⟨o', h'⟩ := a.dom x o h
    exact b.dom x o' h'
theorem RW.step {T : List Addr} {F F' : Hp} {ρ ρ' : List Addr} {H H' : Hp} (s : Step T F ρ H F' ρ' H') : ∀ {w : W} {v : V}, RW F ρ w v → RW F' ρ' w v
  | .d x, v, h => RD.le s.le h
  | .ref n, v, h => by
    obtain ⟨a, h1, h2⟩ := h
    obtain ⟨m, e, _⟩ := s.grow
    refine ⟨a, ?_, h2⟩
    rw [e, List.getElem?_append_left (List.getElem?_eq_some_iff.mp h1).1]
    exact h1
  | .un, v, h => h
theorem RE.step {T : List Addr} {F F' : Hp} {ρ ρ' : List Addr} {H H' : Hp} (s : Step T F ρ H F' ρ' H') : ∀ {env : Env} {σ : L2.St}, RE F ρ env σ → RE F' ρ' env σ
  | [], [], h => h
  | w :: r, o :: t, h => by
    refine ⟨?_, RE.step s h.2⟩
    rcases h.1 with h | ⟨v, h1, h2⟩
    · exact .inl h
    · exact .inr ⟨v, h1, h2.step s⟩
  | [], _ :: _, h => h.elim
  | _ :: _, [], h => h.elim
theorem RE.get {F : Hp} {ρ : List Addr} : ∀ {env : Env} {σ : L2.St} {i : Nat} {w : W}, RE F ρ env σ → getE env i = w → w ≠ .un → ∃ v, σ[i]? = some (some v) ∧ RW F ρ w v
  | [], [], i, w, h, e, n => absurd e.symm n
  | x :: r, o :: t, 0, w, h, e, n => by
    rcases h.1 with h | ⟨v, h1, h2⟩
    · exact absurd (h ▸ e.symm) n
    · have e : x = w := e
      subst e
      exact ⟨v, by simp [h1], h2⟩
  | x :: r, o :: t, i + 1, w, h, e, n => by
    obtain ⟨v, h1, h2⟩ := RE.get (i := i) h.2 e n
    exact ⟨v, by simpa using h1, h2⟩
  | [], _ :: _, _, _, h, _, _ => h.elim
  | _ :: _, [], _, _, h, _, _ => h.elim
theorem RE.set {F : Hp} {ρ : List Addr} : ∀ {env : Env} {σ : L2.St} {i : Nat} {w : W} {v : V}, RE F ρ env σ → RW F ρ w v → RE F ρ (setE env i w) (σ.set i (some v))
  | [], [], i, w, v, h, g => trivial
  | x :: r, o :: t, 0, w, v, h, g => ⟨.inr ⟨v, rfl, g⟩, h.2⟩
  | x :: r, o :: t, i + 1, w, v, h, g => ⟨h.1, RE.set (i := i) h.2 g⟩
  | [], _ :: _, _, _, _, h, _ => h.elim
  | _ :: _, [], _, _, _, h, _ => h.elim
theorem RE.unset {F : Hp} {ρ : List Addr} : ∀ {env : Env} {σ : L2.St} {i : Nat} {o : Option V}, RE F ρ env σ → RE F ρ (setE env i .un) (σ.set i o)
  | [], [], i, o, h => trivial
  | x :: r, _ :: t, 0, o, h => ⟨.inl rfl, h.2⟩
  | x :: r, _ :: t, i + 1, o, h => ⟨h.1, RE.unset (i := i) h.2⟩
  | [], _ :: _, _, _, h => h.elim
  | _ :: _, [], _, _, h => h.elim
theorem RE.wipe {F : Hp} {ρ : List Addr} {env : Env} {σ : L2.St} (h : RE F ρ env σ) : ∀ vs : List Nat, RE F ρ (wipeE env vs) (wipe σ vs)
  | [] => h
  | v :: vs => RE.unset (RE.wipe h vs)
/-! ### readings -/
/-- what is wanted of an evaluation's end -/
def Fin (T : List Addr) (F : Hp) (ρ : List Addr) (st : St) (w : W) (H : Hp) (Q : VK) : Prop := ∀ F' ρ' H' v, Step T F ρ H F' ρ' H' → Rl T F' ρ' st H' → RW F' ρ' w v → Q v H'
def tEv (T : List Addr) (f : Env → St → Rs) : TE := fun σ H Q => ∃ F ρ env st w st', Rl T F ρ st H ∧ RE F ρ env σ ∧ f env st = some (w, st') ∧ Fin T F ρ st' w H Q
def tTv (T : List Addr) (f : Env → St → Rs) : TT := fun σ H Q => ∃ F ρ env st b st', Rl T F ρ st H ∧ RE F ρ env σ ∧ f env st = some (.d (.bl b), st') ∧
  ∀ F' ρ' H', Step T F ρ H F' ρ' H' → Rl T F' ρ' st' H' → Q b H'
section
variable {T : List Addr} {F F' : Hp} {ρ ρ' : List Addr} {st st' : St} {H H' : Hp} {w : W} {Q : VK} {v : V}
theorem Fin.step (h : Fin T F ρ st w H Q) (s : Step T F ρ H F' ρ' H') : Fin T F' ρ' st w H' Q := fun F2 ρ2 H2 v s2 r2 w2 => h F2 ρ2 H2 v (s.trans s2) r2 w2
theorem Fin.d {x : D} (h : Fin T F ρ st (.d x) H Q) (r : Rl T F ρ st H) (hx : RD F x v) : Q v H := h F ρ H v Step.refl r hx
theorem Fin.val (h : Fin T F ρ st w H Q) (r : Rl T F ρ st H) (hx : RW F ρ w v) : Q v H := h F ρ H v Step.refl r hx
/-- a new object that is data from the first -/
theorem Rl.data {p : Addr} {o : HO} (r : Rl T F ρ st H) (hp : H p = none) (ht : ∀ ps, o ≠ .tbl ps) : Rl T (upd F p o) ρ st (upd H p o) := by
  have fp : F p = none := by
    cases q : F p with
    | none => rfl
    | some u => rw [r.sub p u q] at hp; cases hp
  have pT : p ∉ T := fun z => by
    obtain ⟨ps, e, _⟩ := r.tab p z
    rw [hp] at e; cases e
  have pr : ∀ a ∈ ρ, a ≠ p := fun a z e => by
    obtain ⟨o, q, _⟩ := r.has a z
    rw [e, hp] at q; cases q
  have lF : Le F (upd F p o) := Le.upd fp
  have lH : Le H (upd H p o) := Le.upd hp
  refine ⟨fun a u e => ?_, fun a z => ?_, fun a z => ?_, r.len, r.nd, r.nTr, fun a z => ?_, fun i a ob h1 h2 => ?_⟩
  · by_cases q : a = p
    · subst q; rw [upd_same] at e ⊢; exact e
    · rw [upd_ne q] at e ⊢; exact r.sub a u e
  · have na : a ≠ p := fun q => pT (by rw [← q]; exact z)
    rw [upd_ne na]; exact r.nT a z
  · obtain ⟨ps, e, h⟩ := r.tab a z
    exact ⟨ps, lH _ _ e, h⟩
  · obtain ⟨u, e, nt⟩ := r.has a z
    exact ⟨u, lH _ _ e, nt⟩
  · have q := r.obs i a ob h1 h2
    have na := pr a (List.mem_of_getElem? h1)
    cases ob with
    | lst ds => exact ⟨by rw [upd_ne na]; exact q.1, q.2.le lF lH⟩
    | dct ks vs => exact ⟨by rw [upd_ne na]; exact q.1, q.2.le lF lH⟩
    | dead => trivial
theorem Step.data {p : Addr} {o : HO} (r : Rl T F ρ st H) (hp : H p = none) : Step T F ρ H (upd F p o) ρ (upd H p o) := by
  have fp : F p = none := by
    cases q : F p with
    | none => rfl
    | some u => rw [r.sub p u q] at hp; cases hp
  refine ⟨Le.upd fp, fun a u e => ?_, ⟨[], by simp, fun _ z => absurd z (by simp)⟩, fun a u e _ _ => Le.upd hp a u e, fun a u e => ⟨u, Le.upd hp a u e⟩⟩
  by_cases q : a = p
  · subst q; exact .inr (.inl hp)
  · rw [upd_ne q] at e; exact .inl e
theorem Fin.tup {ds : List D} {vs : List V} (h : Fin T F ρ st (.d (.tup false ds)) H Q) (r : Rl T F ρ st H) (hx : RDs F ds vs) : ∀ p, H p = none → Q (.ref p) (upd H p (.tup vs)) := fun p hp => by
  have fp : F p = none := by
    cases q : F p with
    | none => rfl
    | some u => rw [r.sub p u q] at hp; cases hp
  exact h _ _ _ _ (Step.data r hp) (r.data hp (fun _ z => by cases z)) ⟨p, vs, rfl, upd_same, hx.le (Le.upd fp)⟩
/-- a new object of the store -/
theorem Rl.put {p : Addr} {o : HO} {ob : Ob} (r : Rl T F ρ st H) (hp : H p = none) (ht : ∀ ps, o ≠ .tbl ps) (hnt : NT o) (ho : F p = none → RO F (upd H p o) p ob) : Rl T F (ρ ++ [p]) (st ++ [ob]) (upd H p o) := by
  have fp : F p = none := by
    cases q : F p with
    | none => rfl
    | some u => rw [r.sub p u q] at hp; cases hp
  have pT : p ∉ T := fun z => by
    obtain ⟨ps, e, _⟩ := r.tab p z
    rw [hp] at e; cases e
  have pr : ∀ a ∈ ρ, a ≠ p := fun a z e => by
    obtain ⟨o, q, _⟩ := r.has a z
    rw [e, hp] at q; cases q
  have lH : Le H (upd H p o) := Le.upd hp
  refine ⟨fun a u e => ?_, r.nT, fun a z => ?_, by simp [r.len], ?_, fun a z => ?_, fun a z => ?_, fun i a ob' h1 h2 => ?_⟩
  · exact lH _ _ (r.sub a u e)
  · obtain ⟨ps, e, h⟩ := r.tab a z
    exact ⟨ps, lH _ _ e, h⟩
  · rw [List.nodup_append]
    refine ⟨r.nd, by simp, fun a ha b hb => ?_⟩
    have e : b = p := by simpa using hb
    rw [e]; exact pr a ha
  · rcases List.mem_append.mp z with z | z
    · exact r.nTr a z
    · have e : a = p := by simpa using z
      rw [e]; exact pT
  · rcases List.mem_append.mp z with z | z
    · obtain ⟨u, e, nt⟩ := r.has a z
      exact ⟨u, lH _ _ e, nt⟩
    · have e : a = p := by simpa using z
      rw [e]; exact ⟨o, upd_same, hnt⟩
  · by_cases hi : i < ρ.length
    · rw [List.getElem?_append_left hi] at h1
      rw [List.getElem?_append_left (by rw [← r.len]; exact hi)] at h2
      have q := r.obs i a ob' h1 h2
      cases ob' with
      | lst ds => exact ⟨q.1, q.2.le Le.refl lH⟩
      | dct ks vs => exact ⟨q.1, q.2.le Le.refl lH⟩
      | dead => trivial
    · rw [List.getElem?_append_right (by omega)] at h1
      rw [List.getElem?_append_right (by rw [← r.len]; omega), ← r.len] at h2
      have hi0 : i - ρ.length = 0 := by
        have := (List.getElem?_eq_some_iff.mp h1).1
        simp at this; omega
      rw [hi0] at h1 h2
      simp at h1 h2
      subst h1 h2
      exact ho fp
theorem Step.put {p : Addr} {o : HO} (r : Rl T F ρ st H) (hp : H p = none) : Step T F ρ H F (ρ ++ [p]) (upd H p o) :=
  ⟨Le.refl, fun _ _ h => .inl h, ⟨[p], rfl, fun a z => by have e : a = p := by simpa using z
                                                          rw [e]; exact hp⟩, fun a u e _ _ => Le.upd hp a u e, fun a u e => ⟨u, Le.upd hp a u e⟩⟩
theorem Fin.lst {ds : List D} {vs : List V} {box : Bool} (h : Fin T F ρ (mk box st (.fresh ds)).2 (mk box st (.fresh ds)).1 H Q) (r : Rl T F ρ st H) (hx : RDs F ds vs) : ∀ p, H p = none → Q (.ref p) (upd H p (.lst vs)) := fun p hp => by
  have fp : F p = none := by
    cases q : F p with
    | none => rfl
    | some u => rw [r.sub p u q] at hp; cases hp
  cases box with
  | false => exact h _ _ _ _ (Step.data r hp) (r.data hp (fun _ z => by cases z)) ⟨p, vs, rfl, upd_same, hx.le (Le.upd fp)⟩
  | true =>
    refine h _ _ _ _ (Step.put r hp) (r.put (ob := .lst ds) hp (fun _ z => by cases z) nt_lst fun _ => ⟨fp, p, vs, rfl, upd_same, hx⟩) ⟨p, ?_, rfl⟩
    rw [← r.len]
    simp
end
end Rf
/-! Rf4: comparing data. -/
namespace Rf
open PySem PySem.Spec PyProof.Rows L2 PySem.W
mutual
def toP : D → PyData
  | .non => .none
  | .bl b => .bool b
  | .int i => .int i
  | .str s => .str ⟨s.toArray⟩
  | .tup _ ds => .tuple (toPs ds)
  | .lst ds => .list (toPs ds)
  | .dct _ _ => .dict []
def toPs : List D → List PyData
  | [] => []
  | d :: ds => toP d :: toPs ds
end
theorem toPs_map : ∀ ds : List D, toPs ds = ds.map toP
  | [] => rfl
  | d :: ds => by rw [toPs, toPs_map ds, List.map_cons]
theorem nats_eq : ∀ a b : List Nat, nats a b = decide (a = b)
  | [], [] => by simp [nats]
  | [], _ :: _ => by simp [nats]
  | _ :: _, [] => by simp [nats]
  | x :: a, y :: b => by
    rw [nats, nats_eq a b, Bool.eq_iff_iff]
    simp
theorem ieq_eq (i j : Int) : ieq i j = decide (i = j) := by
  rw [Bool.eq_iff_iff]
  cases i with
  | ofNat a =>
    cases j with
    | ofNat b => simp [ieq]; omega
    | negSucc b => simp [ieq]
  | negSucc a =>
    cases j with
    | ofNat b => simp [ieq]
    | negSucc b => simp [ieq]
theorem ilt_eq (i j : Int) : ilt i j = decide (i < j) := by
  rw [Bool.eq_iff_iff]
  cases i with
  | ofNat a =>
    cases j with
    | ofNat b =>
      simp only [ilt, decide_eq_true_eq, Nat.blt_eq]
      show a < b ↔ ((a : Nat) : Int) < ((b : Nat) : Int)
      omega
    | negSucc b =>
      simp only [ilt, decide_eq_true_eq]
      have := Int.negSucc_lt_zero b
      constructor
      · intro h; cases h
      · intro h
        have h : ((a : Nat) : Int) < Int.negSucc b := h
        omega
  | negSucc a =>
    cases j with
    | ofNat b =>
      simp only [ilt, decide_eq_true_eq, true_iff]
      have := Int.negSucc_lt_zero a
      show Int.negSucc a < ((b : Nat) : Int)
      omega
    | negSucc b =>
      simp only [ilt, decide_eq_true_eq, Nat.blt_eq]
      rw [Int.negSucc_eq, Int.negSucc_eq]
      omega
theorem str_inj {a b : List Nat} : ((⟨a.toArray⟩ : Str) == ⟨b.toArray⟩) = decide (a = b) := by
  rw [Bool.eq_iff_iff]
  simp
theorem b2i_if (b : Bool) : b2i b = if b = true then 1 else 0 := by cases b <;> rfl
mutual
theorem deqB_eqv : ∀ a b : D, deqB a b = PyData.eqv (toP a) (toP b)
  | .non, b => by cases b <;> simp [deqB, toP, PyData.eqv]
  | .bl x, b => by cases b <;> simp [deqB, toP, PyData.eqv, ieq_eq, b2i_if, Bool.beq_eq_decide_eq]
  | .int i, b => by cases b <;> simp [deqB, toP, PyData.eqv, ieq_eq, b2i_if, Bool.beq_eq_decide_eq]
  | .str x, b => by cases b <;> simp [deqB, toP, PyData.eqv, nats_eq, str_inj, Bool.beq_eq_decide_eq]
  | .tup _ xs, b => by
    cases b with
    | tup _ ys => simp only [deqB, toP, PyData.eqv]; exact deqBs_eqv xs ys
    | _ => simp [deqB, toP, PyData.eqv]
  | .lst xs, b => by
    cases b with
    | lst ys => simp only [deqB, toP, PyData.eqv]; exact deqBs_eqv xs ys
    | _ => simp [deqB, toP, PyData.eqv]
  | .dct _ _, b => by cases b <;> simp [deqB, toP, PyData.eqv]
theorem deqBs_eqv : ∀ a b : List D, deqBs a b = PyData.eqvAll (toPs a) (toPs b)
  | [], b => by cases b <;> simp [deqBs, toPs, PyData.eqvAll]
  | x :: xs, b => by
    cases b with
    | nil => simp [deqBs, toPs, PyData.eqvAll]
    | cons y ys => simp only [deqBs, toPs, PyData.eqvAll]; rw [deqB_eqv x y, deqBs_eqv xs ys]
end
mutual
theorem okN_ok : ∀ (d : D) (n : Nat), okN d n = true → (toP d).plain = true ∧ (toP d).depth ≤ n
  | .non, n, h => by simp [toP, PyData.plain, PyData.depth]
  | .bl _, n, h => by simp [toP, PyData.plain, PyData.depth]
  | .int _, n, h => by simp [toP, PyData.plain, PyData.depth]
  | .str _, n, h => by simp [toP, PyData.plain, PyData.depth]
  | .tup _ ds, 0, h => by simp [okN] at h
  | .tup _ ds, m + 1, h => by
    simp only [okN] at h
    obtain ⟨h1, h2⟩ := okNs_ok ds m h
    simp only [toP, PyData.plain, PyData.depth]
    exact ⟨h1, by omega⟩
  | .lst ds, 0, h => by simp [okN] at h
  | .lst ds, m + 1, h => by
    simp only [okN] at h
    obtain ⟨h1, h2⟩ := okNs_ok ds m h
    simp only [toP, PyData.plain, PyData.depth]
    exact ⟨h1, by omega⟩
  | .dct _ _, n, h => by simp [okN] at h
theorem okNs_ok : ∀ (ds : List D) (n : Nat), okNs ds n = true → PyData.plainAll (toPs ds) = true ∧ PyData.depthAll (toPs ds) ≤ n
  | [], n, h => by simp [toPs, PyData.plainAll, PyData.depthAll]
  | d :: ds, n, h => by
    simp only [okNs, Bool.and_eq_true] at h
    obtain ⟨h1, h2⟩ := okN_ok d n h.1
    obtain ⟨h3, h4⟩ := okNs_ok ds n h.2
    simp only [toPs, PyData.plainAll, PyData.depthAll]
    exact ⟨by rw [h1, h3]; rfl, by omega⟩
end
mutual
theorem okN_dp {K : PySem.W.Frag} {F H : Hp} (l : Le F H) : ∀ (d : D) (n : Nat) (v : V), okN d n = true → RD F d v → Dp K H v (toP d)
  | .non, n, v, h, r => by cases r; exact .non
  | .bl b, n, v, h, r => by cases r; exact .bl b
  | .int i, n, v, h, r => by cases r; exact .int i
  | .str s, n, v, h, r => by cases r; exact .str _
  | .tup _ ds, 0, v, h, r => by simp [okN] at h
  | .tup _ ds, m + 1, v, h, r => by
    simp only [okN] at h
    obtain ⟨a, vs, rfl, e, rs⟩ := r
    exact .tup (e.sq l) (okNs_dp l ds m vs h rs)
  | .lst ds, 0, v, h, r => by simp [okN] at h
  | .lst ds, m + 1, v, h, r => by
    simp only [okN] at h
    obtain ⟨a, vs, rfl, e, rs⟩ := r
    exact .lst (SqL.of (l _ _ e)) (okNs_dp l ds m vs h rs)
  | .dct _ _, n, v, h, r => by simp [okN] at h
theorem okNs_dp {K : PySem.W.Frag} {F H : Hp} (l : Le F H) : ∀ (ds : List D) (n : Nat) (vs : List V), okNs ds n = true → RDs F ds vs → DpAll K H vs (toPs ds)
  | [], n, vs, h, r => by cases r; exact .nil
  | d :: ds, n, vs, h, r => by
    simp only [okNs, Bool.and_eq_true] at h
    obtain ⟨v, t, rfl, r1, r2⟩ := r
    exact .cons (okN_dp l d n v h.1 r1) (okNs_dp l ds n t h.2 r2)
end
theorem natsLt_eq : ∀ a b : List Nat, natsLt a b = decide (a < b)
  | [], [] => by simp [natsLt]
  | [], _ :: _ => by simp [natsLt]
  | _ :: _, [] => by simp [natsLt]
  | x :: a, y :: b => by
    rw [Bool.eq_iff_iff, decide_eq_true_eq, List.cons_lt_cons_iff, natsLt]
    by_cases h : x < y
    · have e : Nat.blt x y = true := by simpa using h
      simp [e, h]
    · have e : Nat.blt x y = false := by
        cases q : Nat.blt x y with
        | false => rfl
        | true => exact absurd (by simpa using q) h
      by_cases h2 : x = y
      · subst h2
        simp [e, natsLt_eq a b]
      · have e2 : Nat.beq x y = false := by
          cases q : Nat.beq x y with
          | false => rfl
          | true => exact absurd (Nat.eq_of_beq_eq_true q) h2
        simp [e, e2, h, h2]
mutual
theorem alk_eq : ∀ a b : D, alk a b = alike (toP a) (toP b)
  | .non, b => by cases b <;> simp [alk, toP, alike]
  | .bl x, b => by cases b <;> simp [alk, toP, alike]
  | .int i, b => by cases b <;> simp [alk, toP, alike]
  | .str x, b => by cases b <;> simp [alk, toP, alike]
  | .tup _ xs, b => by
    cases b with
    | tup _ ys => simp only [alk, toP, alike]; exact alks_eq xs ys
    | _ => simp [alk, toP, alike]
  | .lst xs, b => by
    cases b with
    | lst ys => simp only [alk, toP, alike]; exact alks_eq xs ys
    | _ => simp [alk, toP, alike]
  | .dct _ _, b => by cases b <;> simp [alk, toP, alike]
theorem alks_eq : ∀ a b : List D, alks a b = alikeAll (toPs a) (toPs b)
  | [], b => by simp [alks, toPs, alikeAll]
  | x :: xs, b => by
    cases b with
    | nil => simp [alks, toPs, alikeAll]
    | cons y ys => simp only [alks, toPs, alikeAll]; rw [alk_eq x y, alks_eq xs ys]
end
mutual
theorem dlt_eq : ∀ a b : D, alk a b = true → dlt a b = dataLt (toP a) (toP b)
  | .non, b, h => by
    cases b with
    | non => rfl
    | _ => simp [alk] at h
  | .bl x, b, h => by
    cases b with
    | bl y => simp only [dlt, toP]; rw [dataLt_bool, ilt_eq]; cases x <;> cases y <;> rfl
    | _ => simp [alk] at h
  | .int i, b, h => by
    cases b with
    | int j => simp only [dlt, toP]; rw [dataLt_int, ilt_eq]
    | _ => simp [alk] at h
  | .str x, b, h => by
    cases b with
    | str y => simp only [dlt, toP]; rw [dataLt_str, natsLt_eq]
    | _ => simp [alk] at h
  | .tup _ xs, b, h => by
    cases b with
    | tup _ ys => simp only [dlt, toP]; rw [dataLt_tuple]; exact dlts_eq xs ys (by simpa [alk] using h)
    | _ => simp [alk] at h
  | .lst xs, b, h => by
    cases b with
    | lst ys => simp only [dlt, toP]; rw [dataLt_list]; exact dlts_eq xs ys (by simpa [alk] using h)
    | _ => simp [alk] at h
  | .dct _ _, b, h => by simp [alk] at h
theorem dlts_eq : ∀ a b : List D, alks a b = true → dlts a b = PyProof.Rows.lexLt itemOrd (keyToksAll (toPs a)) (keyToksAll (toPs b))
  | [], b, h => by
    cases b with
    | nil => rfl
    | cons y ys => simp only [dlts, toPs, keyToksAll]; rfl
  | x :: xs, b, h => by
    cases b with
    | nil => simp only [dlts, toPs, keyToksAll]; rfl
    | cons y ys =>
      simp only [alks, Bool.and_eq_true] at h
      simp only [dlts, toPs]
      rw [dataLt_cons (by rw [← alk_eq]; exact h.1), ← deqB_eqv, ← dlt_eq x y h.1, ← dlts_eq xs ys h.2]
      cases deqB x y <;> rfl
end
end Rf
/-! Rf5: operations of values. -/
namespace Rf
open PySem PySem.Spec PyProof.Rows L2 PySem.W
/-- what a result is: data that stand, a new tuple, a new list -/
def PRo (F H : Hp) : PR → V → Hp → Prop
  | .d x, v, H' => (H' = H ∧ RD F x v) ∨ ∃ ds vs p, x = .tup false ds ∧ H p = none ∧ v = .ref p ∧ H' = upd H p (.tup vs) ∧ RDs F ds vs
  | .fresh ds, v, H' => ∃ vs p, H p = none ∧ v = .ref p ∧ H' = upd H p (.lst vs) ∧ RDs F ds vs
def rD2 (g : D → D → Option PR) : R2 := fun x y H Q => ∃ F p q r, Le F H ∧ RT F H p x ∧ RT F H q y ∧ g p q = some r ∧ ∀ v H', PRo F H r v H' → Q v H'
def rC2 (g : D → D → T3) : R2 := fun x y H Q => ∃ F p q b, Le F H ∧ RT F H p x ∧ RT F H q y ∧ g p q = T3.of b ∧ Q (.bl b) H
theorem line_MAXL : MAXL ≤ sizeLine := by rw [sizeLine_eq]; decide
theorem lenOk_le {α : Type} {xs : List α} (h : lenOk xs = true) : xs.length ≤ MAXL := Nat.le_of_ble_eq_true h
theorem PRo.data {F H : Hp} {x : D} {v : V} (h : RD F x v) : PRo F H (.d x) v H := .inl ⟨rfl, h⟩
section
variable {X : Cx}
theorem small_le {j : Int} (h : small j = true) : -(2 ^ 62) < j ∧ j < 2 ^ 62 := by
  unfold small at h
  have h : j.natAbs < 4611686018427387904 := by simpa using h
  omega
theorem rep_eq {α : Type} (xs : List α) : ∀ n : Nat, rep xs n = (List.replicate n xs).flatten
  | 0 => by simp [rep]
  | n + 1 => by rw [rep, rep_eq xs n, List.replicate_succ, List.flatten_cons]
theorem opD_add : OpR X (binaryOp .Add) (rD2 (binop .add)) := by
  intro pins s σ H x y v u Q I rx ry ⟨F, p, q, r, l, hp, hq, e, hQ⟩
  cases p with
  | int i =>
    cases q with
    | int j =>
      cases e; cases hp; cases hq
      exact op_add pins s σ H _ _ v u Q I rx ry ⟨i, j, rfl, rfl, hQ _ _ (PRo.data rfl)⟩
    | bl j =>
      cases e; cases hp; cases hq
      refine op_add_ib pins s σ H _ _ v u Q I rx ry ⟨i, j, rfl, rfl, ?_⟩
      cases j <;> exact hQ _ _ (PRo.data rfl)
    | _ => cases e
  | str a =>
    cases q with
    | str b =>
      have e : (match lenOk (a ++ b) with | true => some (PR.d (.str (a ++ b))) | false => none) = some r := e
      cases hl : lenOk (a ++ b) with
      | false => rw [hl] at e; cases e
      | true =>
        rw [hl] at e
        cases e; cases hp; cases hq
        have h1 := lenOk_le hl
        have h2 := line_MAXL
        rw [List.length_append] at h1
        refine op_add_str pins s σ H _ _ v u Q I rx ry ⟨_, _, rfl, rfl, ?_, ?_⟩
        · show a.toArray.size + b.toArray.size ≤ _
          simp only [List.size_toArray]
          omega
        · have e2 : (⟨a.toArray⟩ : Str) ++ ⟨b.toArray⟩ = ⟨(a ++ b).toArray⟩ := by
            show (⟨a.toArray ++ b.toArray⟩ : Str) = _
            simp
          rw [e2]
          exact hQ _ _ (PRo.data rfl)
    | _ => cases e
  | tup ka a =>
    cases q with
    | tup kb b =>
      have e : (match lenOk (a ++ b) with | true => some (PR.d (catT ka a kb b)) | false => none) = some r := e
      cases hl : lenOk (a ++ b) with
      | false => rw [hl] at e; cases e
      | true =>
        rw [hl] at e
        cases e
        obtain ⟨pa, vs, rfl, h3, h4⟩ := (hp : RD F (.tup ka a) x)
        obtain ⟨qa, us, rfl, h5, h6⟩ := (hq : RD F (.tup kb b) y)
        have h1 := lenOk_le hl
        have h2 := line_MAXL
        rw [List.length_append] at h1
        have n1 := h4.length
        have n2 := h6.length
        refine op_catA pins s σ H _ _ v u Q I rx ry ⟨pa, qa, vs, us, rfl, rfl, h3.sq l, h5.sq l, by omega, fun z => ?_, fun nz z => ?_, fun nz nz2 p hp => ?_⟩
        · subst z
          have : a = [] := List.eq_nil_of_length_eq_zero (by rw [← n1]; rfl)
          subst this
          exact hQ _ _ (PRo.data ⟨qa, us, rfl, h5, h6⟩)
        · subst z
          have : b = [] := List.eq_nil_of_length_eq_zero (by rw [← n2]; rfl)
          subst this
          cases a with
          | nil => exact absurd (List.eq_nil_of_length_eq_zero n1) nz
          | cons a0 a1 => exact hQ _ _ (PRo.data ⟨pa, vs, rfl, h3, h4⟩)
        · cases a with
          | nil => exact absurd (List.eq_nil_of_length_eq_zero n1) nz
          | cons a0 a1 =>
            cases b with
            | nil => exact absurd (List.eq_nil_of_length_eq_zero n2) nz2
            | cons b0 b1 => exact hQ _ _ (.inr ⟨_, _, p, rfl, hp, rfl, rfl, h4.append h6⟩)
    | _ => cases e
  | lst a =>
    cases q with
    | lst b =>
      have e : (match lenOk (a ++ b) with | true => some (PR.fresh (a ++ b)) | false => none) = some r := e
      cases hl : lenOk (a ++ b) with
      | false => rw [hl] at e; cases e
      | true =>
        rw [hl] at e
        cases e
        obtain ⟨pa, vs, rfl, h3, h4⟩ := hp
        obtain ⟨qa, us, rfl, h5, h6⟩ := hq
        have h1 := lenOk_le hl
        have h2 := line_MAXL
        rw [List.length_append] at h1
        have n1 := h4.length
        have n2 := h6.length
        refine op_cat pins s σ H _ _ v u Q I rx ry ⟨pa, qa, vs, us, rfl, rfl, h3, h5, by omega, fun p hp => ?_⟩
        exact hQ _ _ ⟨_, p, hp, rfl, rfl, h4.append h6⟩
    | _ => cases e
  | _ => cases e
theorem opD_sub : OpR X (binaryOp .Sub) (rD2 (binop .sub)) := by
  intro pins s σ H x y v u Q I rx ry ⟨F, p, q, r, l, hp, hq, e, hQ⟩
  cases p with
  | int i =>
    cases q with
    | int j =>
      cases e; cases hp; cases hq
      exact op_sub pins s σ H _ _ v u Q I rx ry ⟨i, j, rfl, rfl, hQ _ _ (PRo.data rfl)⟩
    | _ => cases e
  | _ => cases e
theorem foldl_app (a : List Nat) : ∀ (n : Nat) (b : List Nat), List.foldl (fun x y => x ++ y) b.toArray (List.replicate n a.toArray) = (b ++ rep a n).toArray
  | 0, b => by simp [rep]
  | n + 1, b => by
    have e : b.toArray ++ a.toArray = (b ++ a).toArray := by simp
    rw [List.replicate_succ, List.foldl_cons, e, foldl_app a n (b ++ a), rep, List.append_assoc]
theorem rep_nil {α : Type} : ∀ n : Nat, rep ([] : List α) n = []
  | 0 => rfl
  | n + 1 => by rw [rep, rep_nil n]; rfl
theorem txt_mul (a : List Nat) (j : Int) : Txt.mul ⟨a.toArray⟩ j = ⟨(rep a j.toNat).toArray⟩ := by
  unfold Txt.mul
  by_cases h1 : j < 1
  · rw [if_pos h1]
    have e : j.toNat = 0 := by omega
    rw [e]
    rfl
  · rw [if_neg h1]
    by_cases h2 : (j == 1 || (⟨a.toArray⟩ : Str).length == 0) = true
    · rw [if_pos h2]
      rw [Bool.or_eq_true] at h2
      rcases h2 with h2 | h2
      · have e : j = 1 := by simpa using h2
        subst e
        show _ = (⟨(a ++ []).toArray⟩ : Str)
        rw [List.append_nil]
      · have e : a = [] := by
          have : a.toArray.size = 0 := by simpa [Str.length] using h2
          simpa using this
        subst e
        rw [rep_nil]
    · rw [if_neg h2]
      have := foldl_app a j.toNat []
      rw [List.nil_append] at this
      exact congrArg Str.mk this
theorem opD_mul : OpR X (binaryOp .Mult) (rD2 (binop .mul)) := by
  intro pins s σ H x y v u Q I rx ry ⟨F, p, q, r, l, hp, hq, e, hQ⟩
  cases p with
  | int i =>
    cases q with
    | int j =>
      have e : (match mulOk i j with | true => some (PR.d (.int (i * j))) | false => none) = some r := e
      cases hm : mulOk i j with
      | false => rw [hm] at e; cases e
      | true =>
        rw [hm] at e
        cases e; cases hp; cases hq
        refine op_mul pins s σ H _ _ v u Q I rx ry ⟨i, j, rfl, rfl, ?_, hQ _ _ (PRo.data rfl)⟩
        unfold mulOk at hm
        rw [Bool.or_eq_true] at hm
        rcases hm with hm | hm
        · have : i.natAbs < 18446744073709551616 := by simpa using hm
          exact .inl (by omega)
        · have : j.natAbs < 18446744073709551616 := by simpa using hm
          exact .inr (by omega)
    | _ => cases e
  | lst a =>
    cases q with
    | int j =>
      have e : (match Nat.ble (a.length * j.toNat) MAXL && small j with | true => some (PR.fresh (rep a j.toNat)) | false => none) = some r := e
      cases hm : Nat.ble (a.length * j.toNat) MAXL && small j with
      | false => rw [hm] at e; cases e
      | true =>
        rw [hm] at e
        cases e; cases hq
        obtain ⟨pa, vs, rfl, h3, h4⟩ := hp
        rw [Bool.and_eq_true] at hm
        have h1 := Nat.le_of_ble_eq_true hm.1
        have h2 := small_le hm.2
        have h5 := line_MAXL
        have n1 := h4.length
        refine op_rep pins s σ H _ _ v u Q I rx ry ⟨pa, j, vs, rfl, rfl, h3, by omega, by omega, by rw [n1]; omega, fun p hp => ?_⟩
        obtain ⟨us, h6, h7⟩ := h4.rep j.toNat
        subst h7
        exact hQ _ _ ⟨_, p, hp, rfl, rfl, h6⟩
    | _ => cases e
  | str a =>
    cases q with
    | int j =>
      have e : (match Nat.ble a.length 1000 && Nat.ble j.natAbs 1000 with | true => some (PR.d (.str (rep a j.toNat))) | false => none) = some r := e
      cases hm : Nat.ble a.length 1000 && Nat.ble j.natAbs 1000 with
      | false => rw [hm] at e; cases e
      | true =>
        rw [hm] at e
        cases e; cases hp; cases hq
        rw [Bool.and_eq_true] at hm
        have h1 := Nat.le_of_ble_eq_true hm.1
        have h2 := Nat.le_of_ble_eq_true hm.2
        obtain ⟨t, rfl⟩ := rx
        obtain ⟨t', rfl⟩ := ry
        have hl : (⟨a.toArray⟩ : Str).length = a.length := by simp [Str.length]
        refine SB.mul ⟨by rw [decide_eq_false (by omega), decide_eq_false (by omega)]; rfl, fun h3 _ => ?_, fun h3 _ => ?_⟩ fun t2 k => ⟨.str (Txt.mul ⟨a.toArray⟩ j), H, I.kept (t' := k) fun b o e => e, ⟨t2, rfl⟩, ?_⟩
        · rw [hl]
          have h5 : a.length * j.toNat ≤ 1000 * 1000 := Nat.mul_le_mul h1 (by omega)
          have h6 : ((a.length : Nat) : Int) * j ≤ 1000000 := by
            have e : ((a.length * j.toNat : Nat) : Int) = (a.length : Int) * j := by
              rw [Int.natCast_mul, Int.toNat_of_nonneg (by omega)]
            omega
          have h4 : ((a.length : Nat) : Int) ≤ (2 ^ 63 - 1) / j := Int.le_ediv_of_mul_le (by omega) (by omega)
          omega
        · rw [hl]
          have : a.length * j.toNat ≤ 1000 * 1000 := Nat.mul_le_mul h1 (by omega)
          unfold Builtin.Str.tooLong
          exact decide_eq_false (by rw [sizeLine_eq]; omega)
        · rw [txt_mul]
          exact hQ _ _ (PRo.data rfl)
    | _ => cases e
  | tup ka a =>
    cases q with
    | int j =>
      have e : (match repTOk a j with | true => some (PR.d (.tup false (rep a j.toNat))) | false => none) = some r := e
      cases hm : repTOk a j with
      | false => rw [hm] at e; cases e
      | true =>
        rw [hm] at e
        cases e; cases hq
        obtain ⟨pa, vs, rfl, h3, h4⟩ := (hp : RD F (.tup ka a) x)
        simp only [repTOk, Bool.and_eq_true] at hm
        obtain ⟨⟨⟨g1, g2⟩, g3⟩, g4⟩ := hm
        have g2 := Nat.le_of_ble_eq_true g2
        have g3 := Nat.le_of_ble_eq_true g3
        have g4 := Nat.le_of_ble_eq_true g4
        have n1 := h4.length
        have ne : vs ≠ [] := fun z => by
          subst z
          have : a = [] := List.eq_nil_of_length_eq_zero (by rw [← n1]; rfl)
          subst this
          cases g1
        refine op_repT pins s σ H _ _ v u Q I rx ry ⟨pa, j, vs, rfl, rfl, h3.sq l, ne, by omega, by omega, by omega, fun p hp => ?_⟩
        obtain ⟨us, h6, h7⟩ := h4.rep j.toNat
        subst h7
        exact hQ _ _ (.inr ⟨_, _, p, rfl, hp, rfl, rfl, h6⟩)
    | _ => cases e
  | _ => cases e
theorem opD_fdiv : OpR X (binaryOp .FloorDiv) (rD2 (binop .fdiv)) := by
  intro pins s σ H x y v u Q I rx ry ⟨F, p, q, r, l, hp, hq, e, hQ⟩
  cases p with
  | int i =>
    cases q with
    | int j =>
      have e : (match pos30 j with | true => some (PR.d (.int (i / j))) | false => none) = some r := e
      cases hm : pos30 j with
      | false => rw [hm] at e; cases e
      | true =>
        rw [hm] at e
        cases e; cases hp; cases hq
        refine op_fdiv pins s σ H _ _ v u Q I rx ry ⟨i, j, rfl, rfl, ?_, hQ _ _ (PRo.data rfl)⟩
        cases j with
        | ofNat k =>
          simp only [pos30, Bool.and_eq_true, Nat.blt_eq] at hm
          have e1 : (Int.ofNat k) = (k : Int) := rfl
          exact ⟨by rw [e1]; omega, by rw [e1]; omega⟩
        | negSucc k => cases hm
    | _ => cases e
  | _ => cases e
theorem opD_mod : OpR X (binaryOp .Mod) (rD2 (binop .mod)) := by
  intro pins s σ H x y v u Q I rx ry ⟨F, p, q, r, l, hp, hq, e, hQ⟩
  cases p with
  | int i =>
    cases q with
    | int j =>
      have e : (match isPos j with | true => some (PR.d (.int (i % j))) | false => none) = some r := e
      cases hm : isPos j with
      | false => rw [hm] at e; cases e
      | true =>
        rw [hm] at e
        cases e; cases hp; cases hq
        refine op_mod pins s σ H _ _ v u Q I rx ry ⟨i, j, rfl, rfl, ?_, hQ _ _ (PRo.data rfl)⟩
        cases j with
        | ofNat k =>
          simp only [isPos, Nat.blt_eq] at hm
          have e1 : (Int.ofNat k) = (k : Int) := rfl
          rw [e1]
          omega
        | negSucc k => cases hm
    | _ => cases e
  | _ => cases e
theorem opD_pow : OpR X (binaryOp .Pow) (rD2 (binop .pow)) := by
  intro pins s σ H x y v u Q I rx ry ⟨F, p, q, r, l, hp, hq, e, hQ⟩
  cases p with
  | int i =>
    cases q with
    | int j =>
      have e : (match powOk i j with | true => some (PR.d (.int (i ^ j.toNat))) | false => none) = some r := e
      cases hm : powOk i j with
      | false => rw [hm] at e; cases e
      | true =>
        rw [hm] at e
        cases e; cases hp; cases hq
        refine op_pow pins s σ H _ _ v u Q I rx ry ⟨i, j, rfl, rfl, ?_, hQ _ _ (PRo.data rfl)⟩
        cases j with
        | ofNat k =>
          simp only [powOk, Bool.and_eq_true, Nat.blt_eq] at hm
          have h1 := Nat.le_of_ble_eq_true hm.2
          have e1 : (Int.ofNat k) = (k : Int) := rfl
          refine ⟨by rw [e1]; omega, by rw [e1]; omega, ?_⟩
          have := hm.1
          omega
        | negSucc k => simp [powOk] at hm
    | _ => cases e
  | _ => cases e
theorem opD_bin {o : Operator} {op : BOp} (h : bopOf o = some op) : OpR X (binaryOp o) (rD2 (binop op)) := by
  cases o <;> first | (cases h; done) | (cases h; first | exact opD_add | exact opD_sub | exact opD_mul | exact opD_fdiv | exact opD_mod | exact opD_pow)
end
end Rf
/-! Rf6: comparisons of values, dicts. -/
namespace Rf
open PySem PySem.Spec PyProof.Rows L2 PySem.W
theorem T3.of_inj {a b : Bool} (h : T3.of a = T3.of b) : a = b := by cases a <;> cases b <;> first | rfl | cases h
theorem T3.of_bad {a : Bool} (h : T3.bad = T3.of a) : False := by cases a <;> cases h
theorem T3.neg_of {t : T3} {b : Bool} (h : t.neg = T3.of b) : t = T3.of (!b) := by
  cases t <;> cases b <;> first | rfl | cases h
theorem eqF_of {a b : D} {k : Bool} (h : eqF a b = T3.of k) : okN a 60 = true ∧ okN b 60 = true ∧ deqB a b = k := by
  unfold eqF at h
  cases e : okN a 60 && okN b 60 with
  | false => rw [e] at h; exact (T3.of_bad h).elim
  | true =>
    rw [e] at h
    rw [Bool.and_eq_true] at e
    exact ⟨e.1, e.2, T3.of_inj h⟩
theorem ltF_of {a b : D} {k : Bool} (h : ltF a b = T3.of k) : okN a 60 = true ∧ okN b 60 = true ∧ alk a b = true ∧ isNon a = false ∧ dlt a b = k := by
  unfold ltF at h
  cases e : okN a 60 && okN b 60 && alk a b && !isNon a with
  | false => rw [e] at h; exact (T3.of_bad h).elim
  | true =>
    rw [e] at h
    simp only [Bool.and_eq_true] at e
    exact ⟨e.1.1.1, e.1.1.2, e.1.2, by simpa using e.2, T3.of_inj h⟩
theorem anyEq_of {x : D} {ds : List D} {k : Bool} (h : anyEq x ds = T3.of k) : okN x 60 = true ∧ okNs ds 60 = true ∧ hasEq x ds = k := by
  unfold anyEq at h
  cases e : okN x 60 && okNs ds 60 with
  | false => rw [e] at h; exact (T3.of_bad h).elim
  | true =>
    rw [e] at h
    rw [Bool.and_eq_true] at e
    exact ⟨e.1, e.2, T3.of_inj h⟩
theorem hasEq_any (x : D) : ∀ ds : List D, hasEq x ds = (toPs ds).any fun y => PyData.eqv y (toP x)
  | [] => rfl
  | y :: r => by
    rw [hasEq, toPs, List.any_cons, ← deqB_eqv, ← hasEq_any x r]
    cases deqB y x <;> rfl
section
variable {X : Cx} {pins : List (Addr × Obj)} {σ : L2.St} {H F : Hp} {s : Shared}
theorem reads {d : D} {n : Nat} {v : V} {u : Value} (I : Inv X pins σ H s) (l : Le F H) (h : okN d n = true) (r : RD F d v) (ru : RelV v u) : ∃ as, Reads s.heap u (toP d) as :=
  Dp.reads I (toP d) v u (okN_dp l d n v h r) ru
theorem readsAll {ds : List D} {n : Nat} {vs : List V} {us : List Value} (I : Inv X pins σ H s) (l : Le F H) (h : okNs ds n = true) (r : RDs F ds vs) (ru : Vals vs us) : ∃ as, ReadsAll s.heap us (toPs ds) as :=
  Dp.readsAll I (toPs ds) vs us (okNs_dp l ds n vs h r) ru
theorem RT.scal {d : D} {n : Nat} {v : V} (l : Le F H) (h : okN d n = true) (r : RT F H d v) : RD H d v := r.rd l
theorem isNon_ne {a : D} (h : isNon a = false) : toP a ≠ .none := by
  cases a <;> first | (cases h; done) | (intro z; cases z)
theorem min_le60 {a b : D} (h : okN a 60 = true) : min (toP a).depth (toP b).depth ≤ 60 := Nat.le_trans (Nat.min_le_left _ _) (okN_ok a 60 h).2
end
section
variable {X : Cx}
theorem opC_eq (hu : X.A.units + 100 < cLine) : OpR X (compareOp .Eq) (rC2 (cmpop .eq)) := by
  intro pins s σ H x y v u Q I rx ry ⟨F, p, q, b, l, hp, hq, e, hQ⟩
  obtain ⟨h1, h2, h3⟩ := eqF_of e
  obtain ⟨as, r1⟩ := reads I Le.refl h1 (hp.rd l) rx
  obtain ⟨bs, r2⟩ := reads I Le.refl h2 (hq.rd l) ry
  have := min_le60 (b := q) h1
  refine SeqAt.eq_plain r1 r2 (okN_ok _ _ h1).1 (okN_ok _ _ h2).1 (by omega) ⟨.bl b, H, I, ?_, hQ⟩
  rw [← deqB_eqv, h3]
  rfl
theorem opC_ne (hu : X.A.units + 100 < cLine) : OpR X (compareOp .NotEq) (rC2 (cmpop .ne)) := by
  intro pins s σ H x y v u Q I rx ry ⟨F, p, q, b, l, hp, hq, e, hQ⟩
  obtain ⟨h1, h2, h3⟩ := eqF_of (T3.neg_of e)
  obtain ⟨as, r1⟩ := reads I Le.refl h1 (hp.rd l) rx
  obtain ⟨bs, r2⟩ := reads I Le.refl h2 (hq.rd l) ry
  have := min_le60 (b := q) h1
  refine SeqAt.ne_plain r1 r2 (okN_ok _ _ h1).1 (okN_ok _ _ h2).1 (by omega) ⟨.bl b, H, I, ?_, hQ⟩
  rw [← deqB_eqv, h3, Bool.not_not]
  rfl
theorem opC_lt (hu : X.A.units + 100 < cLine) : OpR X (compareOp .Lt) (rC2 (cmpop .lt)) := by
  intro pins s σ H x y v u Q I rx ry ⟨F, p, q, b, l, hp, hq, e, hQ⟩
  obtain ⟨h1, h2, h3, h4, h5⟩ := ltF_of e
  obtain ⟨as, r1⟩ := reads I Le.refl h1 (hp.rd l) rx
  obtain ⟨bs, r2⟩ := reads I Le.refl h2 (hq.rd l) ry
  have := min_le60 (b := q) h1
  refine lt_data r1 r2 (by rw [← alk_eq]; exact h3) (isNon_ne h4) (by omega) ⟨.bl b, H, I, ?_, hQ⟩
  rw [← dlt_eq _ _ h3, h5]
  rfl
theorem opC_gt (hu : X.A.units + 100 < cLine) : OpR X (compareOp .Gt) (rC2 (cmpop .gt)) := by
  intro pins s σ H x y v u Q I rx ry ⟨F, p, q, b, l, hp, hq, e, hQ⟩
  obtain ⟨h1, h2, h3, h4, h5⟩ := ltF_of (a := q) (b := p) e
  obtain ⟨as, r1⟩ := reads I Le.refl h2 (hp.rd l) rx
  obtain ⟨bs, r2⟩ := reads I Le.refl h1 (hq.rd l) ry
  have := min_le60 (b := q) h2
  have ha : alike (toP q) (toP p) = true := by rw [← alk_eq]; exact h3
  refine gt_data r1 r2 (by rw [alike_comm]; exact ha) (ne_none_both ha (isNon_ne h4)) (by omega) ⟨.bl b, H, I, ?_, hQ⟩
  rw [← dlt_eq _ _ h3, h5]
  rfl
theorem opC_le : OpR X (compareOp .LtE) (rC2 (cmpop .le)) := by
  intro pins s σ H x y v u Q I rx ry ⟨F, p, q, b, l, hp, hq, e, hQ⟩
  cases p with
  | int i =>
    cases q with
    | int j =>
      cases hp; cases hq
      have e := T3.of_inj e
      refine op_le pins s σ H _ _ v u Q I rx ry ⟨i, j, rfl, rfl, ?_⟩
      rw [ilt_eq] at e
      have e2 : decide (i ≤ j) = b := by
        rw [← e, Bool.eq_iff_iff]
        simp
      show Q (V.bl (decide (i ≤ j))) H
      rw [e2]
      exact hQ
    | _ => exact (T3.of_bad e).elim
  | _ => exact (T3.of_bad e).elim
theorem opC_ge : OpR X (compareOp .GtE) (rC2 (cmpop .ge)) := by
  intro pins s σ H x y v u Q I rx ry ⟨F, p, q, b, l, hp, hq, e, hQ⟩
  cases p with
  | int i =>
    cases q with
    | int j =>
      cases hp; cases hq
      have e := T3.of_inj e
      refine op_ge pins s σ H _ _ v u Q I rx ry ⟨i, j, rfl, rfl, ?_⟩
      rw [ilt_eq] at e
      have e2 : decide (j ≤ i) = b := by
        rw [← e, Bool.eq_iff_iff]
        simp
      show Q (V.bl (decide (j ≤ i))) H
      rw [e2]
      exact hQ
    | _ => exact (T3.of_bad e).elim
  | _ => exact (T3.of_bad e).elim
theorem RT.non_iff {F H : Hp} {p : D} {x : V} (h : RT F H p x) : decide (x = .non) = isNon p := by
  cases p with
  | non => cases h; rfl
  | bl _ => cases h; rfl
  | int _ => cases h; rfl
  | str _ => cases h; rfl
  | tup k ds => obtain ⟨_, _, rfl, _⟩ := (h : RD F (.tup k ds) x); rfl
  | lst _ => obtain ⟨_, _, rfl, _⟩ := h; rfl
  | dct _ _ => obtain ⟨_, _, rfl, _⟩ := h; rfl
theorem opC_is : OpR X (compareOp .Is) (rC2 (cmpop .is)) := by
  intro pins s σ H x y v u Q I rx ry ⟨F, p, q, b, l, hp, hq, e, hQ⟩
  cases q with
  | non =>
    cases hq
    refine op_isN pins s σ H _ _ v u Q I rx ry ⟨rfl, ?_⟩
    have e2 : decide (x = .non) = b := by
      rw [hp.non_iff]
      cases p <;> exact T3.of_inj e
    rw [e2]
    exact hQ
  | bl j =>
    cases p with
    | bl i =>
      cases hp; cases hq
      refine op_isBl pins s σ H _ _ v u Q I rx ry ⟨i, j, rfl, rfl, ?_⟩
      have e := T3.of_inj e
      rw [Bool.beq_eq_decide_eq] at e
      rw [e]
      exact hQ
    | _ => exact (T3.of_bad e).elim
  | _ => exact (T3.of_bad e).elim
theorem opC_isnot : OpR X (compareOp .IsNot) (rC2 (cmpop .isnot)) := by
  intro pins s σ H x y v u Q I rx ry ⟨F, p, q, b, l, hp, hq, e, hQ⟩
  cases q with
  | non =>
    cases hq
    refine op_notN pins s σ H _ _ v u Q I rx ry ⟨rfl, ?_⟩
    have e2 : (!decide (x = .non)) = b := by
      rw [hp.non_iff]
      cases p <;> exact T3.of_inj e
    rw [e2]
    exact hQ
  | bl j =>
    cases p with
    | bl i =>
      cases hp; cases hq
      refine op_notBl pins s σ H _ _ v u Q I rx ry ⟨i, j, rfl, rfl, ?_⟩
      have e := T3.of_inj e
      rw [Bool.beq_eq_decide_eq] at e
      rw [e]
      exact hQ
    | _ => exact (T3.of_bad e).elim
  | _ => exact (T3.of_bad e).elim
end
/-! ### dicts -/
theorem isKey_of {d : D} (h : isKey d = true) : ∃ k, d = kD k := by
  cases d with
  | int i => exact ⟨.inl i, rfl⟩
  | str s => exact ⟨.inr ⟨s.toArray⟩, rfl⟩
  | _ => cases h
theorem RD.key {F : Hp} {k : Key} {v : V} (h : RD F (kD k) v) : v = kV k := by
  cases k with
  | inl i => exact h
  | inr x => cases x; exact h
theorem kD_eq (a b : Key) : deqB (kD a) (kD b) = decide (a = b) := by
  rw [Bool.eq_iff_iff]
  cases a with
  | inl i =>
    cases b with
    | inl j => simp [kD, deqB, ieq_eq]
    | inr y => simp [kD, deqB]
  | inr x =>
    cases b with
    | inl j => simp [kD, deqB]
    | inr y =>
      simp only [kD, deqB, nats_eq, decide_eq_true_eq]
      constructor
      · intro h
        rw [str_of_cps h]
      · intro h
        rw [Sum.inr.inj h]
theorem isKeys_of : ∀ {ds : List D}, ds.all isKey = true → ∃ ks : List Key, ds = ks.map kD
  | [], _ => ⟨[], rfl⟩
  | d :: ds, h => by
    rw [List.all_cons, Bool.and_eq_true] at h
    obtain ⟨k, rfl⟩ := isKey_of h.1
    obtain ⟨ks, rfl⟩ := isKeys_of h.2
    exact ⟨k :: ks, rfl⟩
theorem RDs.keys {F : Hp} : ∀ {ks : List Key} {vs : List V}, RDs F (ks.map kD) vs → vs = ks.map kV
  | [], vs, h => h
  | k :: ks, vs, h => by
    obtain ⟨v, r, rfl, h1, h2⟩ := h
    rw [RD.key h1, RDs.keys h2]
    rfl
theorem kDs_eq : ∀ a b : List Key, deqBs (a.map kD) (b.map kD) = decide (a = b)
  | [], [] => by simp [deqBs]
  | [], _ :: _ => by simp [deqBs]
  | _ :: _, [] => by simp [deqBs]
  | x :: a, y :: b => by
    show (deqB (kD x) (kD y) && deqBs (a.map kD) (b.map kD)) = _
    rw [kD_eq, kDs_eq a b, Bool.eq_iff_iff]
    simp
/-- keys of a kind, as data -/
structure KeyEnc (κ : Type) [DecidableEq κ] where
  enc : κ → D
  eq : ∀ a b, deqB (enc a) (enc b) = decide (a = b)
def encK : KeyEnc Key := ⟨kD, kD_eq⟩
def encT : KeyEnc (List Key) := ⟨fun k => .tup false (k.map kD), fun a b => by simp only [deqB]; exact kDs_eq a b⟩
theorem lookD_val {κ : Type} [DecidableEq κ] (E : KeyEnc κ) {F : Hp} (k : κ) : ∀ {kvs : List (κ × V)} {ds : List D}, RDs F ds (kvs.map (·.2)) → match lookD (E.enc k) (kvs.map fun p => E.enc p.1) ds with
    | some d => ∃ v, valV kvs k = some v ∧ RD F d v
    | none => valV kvs k = none
  | [], ds, h => by
    cases ds with
    | nil => rfl
    | cons d ds => obtain ⟨_, _, e, _⟩ := h; cases e
  | p :: r, [], h => by cases h
  | p :: r, d :: ds, h => by
    obtain ⟨v, t, e, h1, h2⟩ := h
    cases e
    have ih := lookD_val E (F := F) k (kvs := r) (ds := ds) h2
    show match (match deqB (E.enc p.1) (E.enc k) with | true => some d | false => lookD (E.enc k) (r.map fun p => E.enc p.1) ds) with | some d => ∃ v, valV (p :: r) k = some v ∧ RD F d v | none => valV (p :: r) k = none
    rw [E.eq]
    by_cases e : p.1 = k
    · rw [decide_eq_true e]
      exact ⟨p.2, valV_pos e, h1⟩
    · rw [decide_eq_false e]
      simp only [valV_neg e]
      exact ih
theorem hasD_val {κ : Type} [DecidableEq κ] (E : KeyEnc κ) (k : κ) : ∀ kvs : List (κ × V), hasD (E.enc k) (kvs.map fun p => E.enc p.1) = (valV kvs k).isSome
  | [] => rfl
  | p :: r => by
    show (match deqB (E.enc p.1) (E.enc k) with | true => true | false => hasD (E.enc k) (r.map fun p : κ × V => E.enc p.1)) = _
    rw [E.eq]
    by_cases e : p.1 = k
    · rw [decide_eq_true e, valV_pos e]; rfl
    · rw [decide_eq_false e, valV_neg e]; exact hasD_val E k r
theorem setD_val {κ : Type} [DecidableEq κ] (E : KeyEnc κ) {F : Hp} {k : κ} {d : D} {v : V} (hd : RD F d v) : ∀ {kvs : List (κ × V)} {ds : List D}, RDs F ds (kvs.map (·.2)) →
    RDs F (setD (E.enc k) d (kvs.map fun p => E.enc p.1) ds) ((kvs.map fun kv => if kv.1 = k then (kv.1, v) else kv).map (·.2))
  | [], ds, h => h
  | p :: r, [], h => by cases h
  | p :: r, x :: ds, h => by
    obtain ⟨u, t, e, h1, h2⟩ := h
    cases e
    have ih := setD_val E (k := k) hd (kvs := r) (ds := ds) h2
    show RDs F (match deqB (E.enc p.1) (E.enc k) with | true => d :: setD (E.enc k) d (r.map fun p => E.enc p.1) ds | false => x :: setD (E.enc k) d (r.map fun p => E.enc p.1) ds) _
    rw [E.eq, List.map_cons, List.map_cons]
    by_cases e : p.1 = k
    · rw [decide_eq_true e, if_pos e]
      exact RDs.cons hd ih
    · rw [decide_eq_false e, if_neg e]
      exact RDs.cons h1 ih
theorem putK_keys {κ : Type} [DecidableEq κ] (E : KeyEnc κ) {k : κ} {v : V} (kvs : List (κ × V)) : (kvs.map fun kv => if kv.1 = k then (kv.1, v) else kv).map (fun p : κ × V => E.enc p.1) = kvs.map (fun p : κ × V => E.enc p.1) := by
  rw [List.map_map]
  refine List.map_congr_left fun p _ => ?_
  show E.enc (if p.1 = k then (p.1, v) else p).1 = E.enc p.1
  split <;> rfl
theorem putD_val {κ : Type} [DecidableEq κ] (E : KeyEnc κ) {F : Hp} {k : κ} {d : D} {v : V} (hd : RD F d v) {kvs : List (κ × V)} {ds ks' ds' : List D} (h : RDs F ds (kvs.map (·.2))) (e : putD (E.enc k) d (kvs.map fun p => E.enc p.1) ds = (ks', ds')) :
    ks' = (putK kvs k v).map (fun p => E.enc p.1) ∧ RDs F ds' ((putK kvs k v).map (·.2)) := by
  unfold putD at e
  rw [hasD_val E, ← valV_any] at e
  unfold putK
  cases q : kvs.any fun kv => decide (kv.1 = k) with
  | true =>
    rw [q] at e
    cases e
    rw [if_pos rfl, putK_keys E]
    exact ⟨rfl, setD_val E hd h⟩
  | false =>
    rw [q] at e
    cases e
    rw [if_neg (by decide), List.map_append, List.map_append]
    exact ⟨rfl, h.append (RDs.cons hd rfl)⟩
/-- a dict at a: its keys are of a kind -/
inductive KS (H : Hp) (a : Addr) (y : V) (H0 : Hp) : (κ : Type) → [DecidableEq κ] → KeyEnc κ → κ → List (κ × V) → (List (κ × V) → HO) → Prop
  | k (kk : Key) (kvs : List (Key × V)) : H a = some (.dK kvs) → y = kV kk → KS H a y H0 Key encK kk kvs .dK
  | t (k : List Key) (kvs : List (List Key × V)) (b : Addr) : (H a = some (.dT kvs) ∨ (kvs = [] ∧ H a = some (.dK []))) → y = .ref b → H0 b = some (.tup (k.map kV)) → KS H a y H0 (List Key) encT k kvs .dT
theorem keys_of {F H : Hp} {ks ws : List D} {x y : V} {k : D} (l : Le F H) (h : RT F H (.dct ks ws) x) (ok : keyOk ks k = true) (hy : RD H k y) : ∃ a, x = .ref a ∧ ∃ (κ : Type) (i : DecidableEq κ) (E : KeyEnc κ) (kk : κ) (kvs : List (κ × V)) (mkd : List (κ × V) → HO),
    KS H a y H κ E kk kvs mkd ∧ k = E.enc kk ∧ ks = kvs.map (fun p => E.enc p.1) ∧ RDs F ws (kvs.map (·.2)) := by
  unfold keyOk at ok
  rw [Bool.or_eq_true, Bool.and_eq_true, Bool.and_eq_true] at ok
  obtain ⟨a, vs, rfl, h1, h2⟩ := h
  refine ⟨a, rfl, ?_⟩
  rcases ok with ok | ok
  · obtain ⟨kk, rfl⟩ := isKey_of ok.1
    rcases h2 with ⟨kvs, h3, h4, h5⟩ | ⟨kvs, hn, h3, h4, h5⟩
    · subst h4 h5
      exact ⟨Key, inferInstance, encK, kk, kvs, .dK, .k kk kvs h3 (RD.key hy), rfl, rfl, h1⟩
    · cases kvs with
      | nil => exact absurd rfl hn
      | cons p r =>
        rw [h4] at ok
        simp [isKey] at ok
  · have tk : ∃ kk : List Key, k = .tup false (kk.map kD) := by
      cases k with
      | tup q ds =>
        cases q with
        | true => simp [isKeyT] at ok
        | false =>
          obtain ⟨kk, rfl⟩ := isKeys_of (show ds.all isKey = true from ok.1)
          exact ⟨kk, rfl⟩
      | _ => simp [isKeyT] at ok
    obtain ⟨kk, rfl⟩ := tk
    obtain ⟨b, us, rfl, hb, hu⟩ := hy
    rw [RDs.keys hu] at hb
    rcases h2 with ⟨kvs, h3, h4, h5⟩ | ⟨kvs, hn, h3, h4, h5⟩
    · cases kvs with
      | nil =>
        subst h4 h5
        exact ⟨List Key, inferInstance, encT, kk, [], .dT, .t kk [] b (.inr ⟨rfl, h3⟩) rfl hb, rfl, rfl, h1⟩
      | cons p r =>
        rw [h4] at ok
        obtain ⟨⟨p1, p2⟩, r⟩ := p, r
        cases p1 <;> simp [isKeyT, kD] at ok
    · subst h4 h5
      exact ⟨List Key, inferInstance, encT, kk, kvs, .dT, .t kk kvs b (.inl h3) rfl hb, rfl, rfl, h1⟩
section
variable {X : Cx} {pins : List (Addr × Obj)} {σ : L2.St} {H : Hp} {s : Shared} {a : Addr}
/-- an empty dict has keys of any kind -/
theorem inv_dT (I : Inv X pins σ H s) (h : H a = some (.dK [])) : Inv X pins σ (upd H a (.dT [])) s := by
  obtain ⟨z, hd, vs, rel, dd⟩ := I.hok a _ h
  cases rel
  obtain ⟨o, es, ep, h1, h2, h3, h4, h5⟩ := dd
  have e0 : es.toList = [] := by
    revert h5
    generalize es.toList = L
    intro h5
    obtain ⟨h5, _⟩ := h5
    cases h5
    rfl
  exact I.write (t' := s.toks) (h' := s.heap) (x := a) (e := a) (o := .dT []) (by rw [h]; trivial) (.inl rfl) (fun _ _ _ e => e) ⟨o, h1⟩
    ⟨Nat.zero_le _, hd, [], .nil, o, es, ep, h1, h2, h3, by rw [e0]; rfl, by simp⟩
theorem inv_dK (I : Inv X pins σ (upd H a (.dT [])) s) (h : H a = some (.dK [])) : Inv X pins σ H s := by
  obtain ⟨z, hd, vs, rel, o, es, ep, h1, h2, h3, h4, h5⟩ := I.hok a _ upd_same
  cases rel
  have e : upd (upd H a (.dT [])) a (.dK []) = H := by
    funext b
    by_cases q : b = a
    · subst q; rw [upd_same, h]
    · rw [upd_ne q, upd_ne q]
  have e0 : es = #[] := Array.toList_inj.mp (by rw [h4]; rfl)
  subst e0
  have J : Inv X pins σ (upd (upd H a (.dT [])) a (.dK [])) s := I.write (t' := s.toks) (h' := s.heap) (x := a) (e := a) (o := .dK []) (by rw [upd_same]; trivial) (.inl rfl) (fun _ _ _ e => e) ⟨o, h1⟩
    ⟨Nat.zero_le _, hd, [], .nil, o, #[], ep, h1, h2, h3, fun e he => absurd he (by simp), .nil, by simp⟩
  rw [e] at J
  exact J
theorem dget_any {κ : Type} [DecidableEq κ] {E : KeyEnc κ} {kk : κ} {kvs : List (κ × V)} {mkd : List (κ × V) → HO} {y : V} (k : KS H a y H κ E kk kvs mkd) (I : Inv X pins σ H s) :
    ∃ H2, Inv X pins σ H2 s ∧ DGet H2 a y (valV kvs kk) ∧ ∀ s', Inv X pins σ H2 s' → Inv X pins σ H s' := by
  cases k with
  | k kk kvs h hy =>
    subst hy
    exact ⟨H, I, DGet.k h, fun _ J => J⟩
  | t k kvs b h hy hb =>
    subst hy
    rcases h with h | ⟨rfl, h⟩
    · exact ⟨H, I, DGet.t h hb, fun _ J => J⟩
    · refine ⟨_, inv_dT I h, DGet.t upd_same ?_, fun _ J => inv_dK J h⟩
      rw [upd_ne (ne_of hb h (fun z => nomatch z))]
      exact hb
theorem dput_any {κ : Type} [DecidableEq κ] {E : KeyEnc κ} {kk : κ} {kvs : List (κ × V)} {mkd : List (κ × V) → HO} {y v : V} (k : KS H a y H κ E kk kvs mkd) (hl : kvs.length < sizeLine) (I : Inv X pins σ H s) :
    ∃ H2, Inv X pins σ H2 s ∧ DPut H2 a y v (upd H a (mkd (putK kvs kk v))) := by
  cases k with
  | k kk kvs h hy =>
    subst hy
    exact ⟨H, I, DPut.k h hl⟩
  | t k kvs b h hy hb =>
    subst hy
    rcases h with h | ⟨rfl, h⟩
    · exact ⟨H, I, DPut.t h hb hl⟩
    · refine ⟨_, inv_dT I h, ?_⟩
      have q := DPut.t (H := upd H a (.dT [])) (a := a) (b := b) (kvs := []) (k := k) (v := v) upd_same (by rw [upd_ne (ne_of hb h (fun z => nomatch z))]; exact hb) hl
      rw [upd_upd] at q
      exact q
theorem KS.ho {κ : Type} [DecidableEq κ] {E : KeyEnc κ} {kk : κ} {kvs : List (κ × V)} {mkd : List (κ × V) → HO} {y : V} (k : KS H a y H κ E kk kvs mkd) : ∃ o, H a = some o ∧ ∀ (F H' : Hp) (ws : List D) (kvs' : List (κ × V)), kvs' ≠ [] → H' a = some (mkd kvs') → RDs F ws (kvs'.map (·.2)) → RT F H' (.dct (kvs'.map fun p => E.enc p.1) ws) (.ref a) := by
  cases k with
  | k kk kvs h hy => exact ⟨_, h, fun F H' ws kvs' hn h1 h2 => ⟨a, _, rfl, h2, .inl ⟨kvs', h1, rfl, rfl⟩⟩⟩
  | t k kvs b h hy hb =>
    have g : ∀ (F H' : Hp) (ws : List D) (kvs' : List (List Key × V)), kvs' ≠ [] → H' a = some (.dT kvs') → RDs F ws (kvs'.map (·.2)) → RT F H' (.dct (kvs'.map fun p => encT.enc p.1) ws) (.ref a) := fun F H' ws kvs' hn h1 h2 => ⟨a, _, rfl, h2, .inr ⟨kvs', hn, h1, rfl, rfl⟩⟩
    rcases h with h | ⟨rfl, h⟩
    · exact ⟨_, h, g⟩
    · exact ⟨_, h, g⟩
end
section
variable {X : Cx}
theorem any_beq (c : Nat) (s : List Nat) : (s.any fun d => Nat.beq d c) = decide (c ∈ s) := by
  rw [Bool.eq_iff_iff, List.any_eq_true, decide_eq_true_eq]
  constructor
  · intro ⟨d, h1, h2⟩
    rw [← Nat.eq_of_beq_eq_true h2]
    exact h1
  · intro h
    exact ⟨c, h, Nat.beq_refl c⟩
theorem opC_in (hu : X.A.units + 100 < cLine) : OpR X (compareOp .In) (rC2 (cmpop .isin)) := by
  intro pins s σ H x y v u Q I rx ry ⟨F, p, q, b, l, hp, hq, e, hQ⟩
  cases q with
  | lst ds =>
    obtain ⟨h1, h2, h3⟩ := anyEq_of e
    obtain ⟨as, r1⟩ := reads I Le.refl h1 (hp.rd l) rx
    have hq2 := hq.rd l
    have h2' : okN (.lst ds) 61 = true := by simp only [okN]; exact h2
    obtain ⟨bs, r2⟩ := reads I Le.refl h2' hq2 ry
    have m := (okN_ok _ _ h1).2
    have m2 : min (PyData.depthAll (toPs ds)) (toP p).depth ≤ 60 := Nat.le_trans (Nat.min_le_right _ _) m
    refine SeqAt.in_list_data r2 r1 (okNs_ok _ _ h2).1 (okN_ok _ _ h1).1 (by omega) ⟨.bl b, H, I, ?_, hQ⟩
    rw [← hasEq_any, h3]
    rfl
  | tup tk ds =>
    obtain ⟨h1, h2, h3⟩ := anyEq_of e
    obtain ⟨as, r1⟩ := reads I Le.refl h1 (hp.rd l) rx
    have hq2 := hq.rd l
    have h2' : okN (.tup tk ds) 61 = true := by simp only [okN]; exact h2
    obtain ⟨bs, r2⟩ := reads I Le.refl h2' hq2 ry
    have m := (okN_ok _ _ h1).2
    have m2 : min (PyData.depthAll (toPs ds)) (toP p).depth ≤ 60 := Nat.le_trans (Nat.min_le_right _ _) m
    refine SeqAt.in_tuple_data r2 r1 (okNs_ok _ _ h2).1 (okN_ok _ _ h1).1 (by omega) ⟨.bl b, H, I, ?_, hQ⟩
    rw [← hasEq_any, h3]
    rfl
  | dct ks ws =>
    have e : (match keyOk ks p with | true => T3.of (hasD p ks) | false => .bad) = T3.of b := e
    cases hk : keyOk ks p with
    | false => rw [hk] at e; exact (T3.of_bad e).elim
    | true =>
      rw [hk] at e
      have e := T3.of_inj e
      obtain ⟨a, rfl, κ, i, E, kk, kvs, mkd, kS, rfl, rfl, h5⟩ := keys_of l hq hk (hp.rd l)
      obtain ⟨H2, I2, g, bk⟩ := dget_any kS I
      cases ry
      refine d_in (by omega) I2 g rx fun s' I' => ⟨.bl b, H, bk s' I', ?_, hQ⟩
      rw [← hasD_val E, e]
      rfl
  | str z =>
    cases p with
    | str t =>
      match t, hp, e with
      | [], hp, e => exact (T3.of_bad e).elim
      | [c], hp, e =>
        cases hp; cases hq
        have e := T3.of_inj e
        refine op_in_sign pins s σ H _ _ v u Q I rx ry ⟨c, _, rfl, rfl, ?_⟩
        rw [any_beq] at e
        have e2 : decide (c ∈ (⟨z.toArray⟩ : Str).cps.toList) = b := e
        rw [e2]
        exact hQ
      | _ :: _ :: _, hp, e => exact (T3.of_bad e).elim
    | _ => exact (T3.of_bad e).elim
  | _ => exact (T3.of_bad e).elim
theorem opC_notin (hu : X.A.units + 100 < cLine) : OpR X (compareOp .NotIn) (rC2 (cmpop .notin)) := by
  intro pins s σ H x y v u Q I rx ry ⟨F, p, q, b, l, hp, hq, e, hQ⟩
  have e := T3.neg_of e
  cases q with
  | lst ds =>
    obtain ⟨h1, h2, h3⟩ := anyEq_of e
    obtain ⟨as, r1⟩ := reads I Le.refl h1 (hp.rd l) rx
    have hq2 := hq.rd l
    have h2' : okN (.lst ds) 61 = true := by simp only [okN]; exact h2
    obtain ⟨bs, r2⟩ := reads I Le.refl h2' hq2 ry
    have m := (okN_ok _ _ h1).2
    have m2 : min (PyData.depthAll (toPs ds)) (toP p).depth ≤ 60 := Nat.le_trans (Nat.min_le_right _ _) m
    refine SeqAt.notIn_list_data r2 r1 (okNs_ok _ _ h2).1 (okN_ok _ _ h1).1 (by omega) ⟨.bl b, H, I, ?_, hQ⟩
    rw [← hasEq_any, h3, Bool.not_not]
    rfl
  | tup tk ds =>
    obtain ⟨h1, h2, h3⟩ := anyEq_of e
    obtain ⟨as, r1⟩ := reads I Le.refl h1 (hp.rd l) rx
    have hq2 := hq.rd l
    have h2' : okN (.tup tk ds) 61 = true := by simp only [okN]; exact h2
    obtain ⟨bs, r2⟩ := reads I Le.refl h2' hq2 ry
    have m := (okN_ok _ _ h1).2
    have m2 : min (PyData.depthAll (toPs ds)) (toP p).depth ≤ 60 := Nat.le_trans (Nat.min_le_right _ _) m
    refine SeqAt.notIn_tuple_data r2 r1 (okNs_ok _ _ h2).1 (okN_ok _ _ h1).1 (by omega) ⟨.bl b, H, I, ?_, hQ⟩
    rw [← hasEq_any, h3, Bool.not_not]
    rfl
  | dct ks ws =>
    have e : (match keyOk ks p with | true => T3.of (hasD p ks) | false => .bad) = T3.of (!b) := e
    cases hk : keyOk ks p with
    | false => rw [hk] at e; exact (T3.of_bad e).elim
    | true =>
      rw [hk] at e
      have e := T3.of_inj e
      obtain ⟨a, rfl, κ, i, E, kk, kvs, mkd, kS, rfl, rfl, h5⟩ := keys_of l hq hk (hp.rd l)
      obtain ⟨H2, I2, g, bk⟩ := dget_any kS I
      cases ry
      refine d_notIn (by omega) I2 g rx fun s' I' => ⟨.bl b, H, bk s' I', ?_, hQ⟩
      rw [← hasD_val E, e, Bool.not_not]
      rfl
  | str z =>
    cases p with
    | str t =>
      match t, hp, e with
      | [], hp, e => exact (T3.of_bad e).elim
      | [c], hp, e =>
        cases hp; cases hq
        have e := T3.of_inj e
        refine op_notIn_sign pins s σ H _ _ v u Q I rx ry ⟨c, _, rfl, rfl, ?_⟩
        rw [any_beq] at e
        have e2 : decide (c ∈ (⟨z.toArray⟩ : Str).cps.toList) = !b := e
        rw [e2, Bool.not_not]
        exact hQ
      | _ :: _ :: _, hp, e => exact (T3.of_bad e).elim
    | _ => exact (T3.of_bad e).elim
  | _ => exact (T3.of_bad e).elim
theorem opC_cmp (hu : X.A.units + 100 < cLine) (o : CmpOp) : OpR X (compareOp o) (rC2 (cmpop (copOf o))) := by
  cases o
  · exact opC_eq hu
  · exact opC_ne hu
  · exact opC_lt hu
  · exact opC_le
  · exact opC_gt hu
  · exact opC_ge
  · exact opC_is
  · exact opC_isnot
  · exact opC_in hu
  · exact opC_notin hu
end
end Rf
/-! Rf7: views, the store's steps. -/
namespace Rf
open PySem PySem.Spec PyProof.Rows L2 PySem.W
theorem _root_.L2.PE.mono {X : Cx} {e : Expr} {t t' : TE} (h : PE X e t) (m : ∀ σ H Q, t' σ H Q → t σ H Q) : PE X e t' := ⟨fun pins s σ H Q I q => h.run pins s σ H Q I (m σ H Q q)⟩
theorem _root_.L2.PT.mono {X : Cx} {e : Expr} {t t' : TT} (h : PT X e t) (m : ∀ σ H Q, t' σ H Q → t σ H Q) : PT X e t' := ⟨fun pins s σ H Q I q => h.run pins s σ H Q I (m σ H Q q)⟩
theorem _root_.L2.PW.mono {X : Cx} {e : Expr} {t t' : TT} (h : PW X e t) (m : ∀ σ H Q, t' σ H Q → t σ H Q) : PW X e t' := ⟨fun wh pins s σ H Q I q => h.run wh pins s σ H Q I (m σ H Q q)⟩
theorem _root_.L2.PA.mono {X : Cx} {e : List Expr} {t t' : TA} (h : PA X e t) (m : ∀ σ H Q, t' σ H Q → t σ H Q) : PA X e t' := ⟨fun p pins s σ H Q I q => h.run p pins s σ H Q I (m σ H Q q)⟩
theorem _root_.L2.PS.mono {X : Cx} {e : Stmt} {t t' : TS} (h : PS X e t) (m : ∀ D σ H, t' D σ H → t D σ H) : PS X e t' := ⟨fun pins s σ H D I q => h.run pins s σ H D I (m D σ H q)⟩
theorem _root_.L2.PSs.mono {X : Cx} {e : List Stmt} {t t' : TS} (h : PSs X e t) (m : ∀ D σ H, t' D σ H → t D σ H) : PSs X e t' := ⟨fun pins s σ H D I q => h.run pins s σ H D I (m D σ H q)⟩
theorem _root_.L2.PI.mono {X : Cx} {tg e : Expr} {t t' : TI} (h : PI X tg e t) (m : ∀ σ H Q, t' σ H Q → t σ H Q) : PI X tg e t' := ⟨fun pins s σ H Q I q => h.run pins s σ H Q I (m σ H Q q)⟩
theorem getO_eq : ∀ (st : St) (n : Nat), getO st n = (st[n]?).getD .dead
  | [], n => by simp [getO]
  | o :: r, 0 => by simp [getO]
  | o :: r, n + 1 => by simp [getO, getO_eq r n]
theorem setO_eq : ∀ (st : St) (n : Nat) (o : Ob), setO st n o = st.set n o
  | [], n, o => by simp [setO]
  | x :: r, 0, o => by simp [setO]
  | x :: r, n + 1, o => by simp [setO, setO_eq r n o]
section
variable {T : List Addr} {F F' : Hp} {ρ ρ' : List Addr} {st st' : St} {H H' : Hp} {w : W} {Q : VK} {v : V}
theorem Rl.look {n : Nat} {a : Addr} (r : Rl T F ρ st H) (h : ρ[n]? = some a) : RO F H a (getO st n) := by
  rw [getO_eq]
  cases q : st[n]? with
  | none => trivial
  | some ob => exact r.obs n a ob h q
theorem view_ok {d : D} (r : Rl T F ρ st H) (h : RW F ρ w v) (e : view st w = some d) : RT F H d v := by
  cases w with
  | d x => cases e; exact RD.rt r.sub h
  | un => cases e
  | ref n =>
    obtain ⟨a, h1, rfl⟩ := h
    have q := r.look h1
    cases ho : getO st n with
    | lst ds => simp only [view, ho] at e; rw [ho] at q; cases e; exact q.2
    | dct ks vs => simp only [view, ho] at e; rw [ho] at q; cases e; exact q.2
    | dead => simp only [view, ho] at e; cases e
theorem Rl.freeze {n : Nat} {a : Addr} {o : HO} (r : Rl T F ρ st H) (h : ρ[n]? = some a) (fa : F a = none) (ha : H a = some o) : Rl T (upd F a o) ρ (setO st n .dead) H ∧ Step T F ρ H (upd F a o) ρ H := by
  have mem : a ∈ ρ := List.mem_of_getElem? h
  have lF : Le F (upd F a o) := Le.upd fa
  refine ⟨⟨fun b u e => ?_, fun b z => ?_, r.tab, by rw [setO_eq, List.length_set]; exact r.len, r.nd, r.nTr, r.has, fun i b ob h1 h2 => ?_⟩, lF, fun b u e => ?_, ⟨[], by simp, fun _ z => absurd z (by simp)⟩, fun b u e _ _ => e, fun b u e => ⟨u, e⟩⟩
  · by_cases q : b = a
    · subst q; rw [upd_same] at e; rw [ha]; exact e
    · rw [upd_ne q] at e; exact r.sub b u e
  · have nb : b ≠ a := fun q => r.nTr a mem (by rw [← q]; exact z)
    rw [upd_ne nb]; exact r.nT b z
  · rw [setO_eq] at h2
    by_cases q : n = i
    · subst q
      rw [List.getElem?_set_self (by rw [← r.len]; exact (List.getElem?_eq_some_iff.mp h).1)] at h2
      cases h2
      trivial
    · rw [List.getElem?_set_ne q] at h2
      have nb : b ≠ a := fun z => by
        subst z
        exact q ((List.getElem?_inj (List.getElem?_eq_some_iff.mp h).1 r.nd).mp (h.trans h1.symm))
      have k := r.obs i b ob h1 h2
      cases ob with
      | lst ds => exact ⟨by rw [upd_ne nb]; exact k.1, k.2.le lF Le.refl⟩
      | dct ks vs => exact ⟨by rw [upd_ne nb]; exact k.1, k.2.le lF Le.refl⟩
      | dead => trivial
  · by_cases q : b = a
    · subst q; exact .inr (.inr mem)
    · rw [upd_ne q] at e; exact .inl e
theorem freeze_ok {d : D} (r : Rl T F ρ st H) (h : RW F ρ w v) (e : freeze st w = some (d, st')) : ∃ F', Step T F ρ H F' ρ H ∧ Rl T F' ρ st' H ∧ RD F' d v := by
  cases w with
  | d x => cases e; exact ⟨F, Step.refl, r, h⟩
  | un => cases e
  | ref n =>
    obtain ⟨a, h1, rfl⟩ := h
    have q := r.look h1
    cases ho : getO st n with
    | lst ds =>
      simp only [freeze, ho] at e
      rw [ho] at q
      cases e
      obtain ⟨fa, b, vs, e1, h2, h3⟩ := q
      cases e1
      obtain ⟨r', s'⟩ := r.freeze h1 fa h2
      exact ⟨_, s', r', a, vs, rfl, upd_same, h3.le (Le.upd fa)⟩
    | dct ks vs =>
      simp only [freeze, ho] at e
      rw [ho] at q
      cases e
      obtain ⟨fa, b, us, e1, h2, h3⟩ := q
      cases e1
      rcases h3 with ⟨kvs, h4, h5⟩ | ⟨kvs, hn, h4, h5⟩
      · obtain ⟨r', s'⟩ := r.freeze h1 fa h4
        exact ⟨_, s', r', a, us, rfl, h2.le (Le.upd fa), .inl ⟨kvs, upd_same, h5⟩⟩
      · obtain ⟨r', s'⟩ := r.freeze h1 fa h4
        exact ⟨_, s', r', a, us, rfl, h2.le (Le.upd fa), .inr ⟨kvs, hn, upd_same, h5⟩⟩
    | dead => simp only [freeze, ho] at e; cases e
/-- the store's object n is written -/
theorem Rl.write {n : Nat} {a : Addr} {o o' : HO} {ob : Ob} (r : Rl T F ρ st H) (h : ρ[n]? = some a) (fa : F a = none) (ha : H a = some o) (hnt : NT o') (ho : RO F (upd H a o') a ob) : Rl T F ρ (setO st n ob) (upd H a o') ∧ Step T F ρ H F ρ (upd H a o') := by
  have mem : a ∈ ρ := List.mem_of_getElem? h
  refine ⟨⟨fun b u e => ?_, r.nT, fun b z => ?_, by rw [setO_eq, List.length_set]; exact r.len, r.nd, r.nTr, fun b z => ?_, fun i b ob' h1 h2 => ?_⟩, Le.refl, fun b u e => .inl e, ⟨[], by simp, fun _ z => absurd z (by simp)⟩, fun b u e _ hb => ?_, fun b u e => ?_⟩
  · have nb : b ≠ a := fun q => by rw [q, fa] at e; cases e
    rw [upd_ne nb]; exact r.sub b u e
  · obtain ⟨ps, e, k⟩ := r.tab b z
    have nb : b ≠ a := fun q => r.nTr a mem (by rw [← q]; exact z)
    exact ⟨ps, by rw [upd_ne nb]; exact e, k⟩
  · by_cases q : b = a
    · subst q; exact ⟨o', upd_same, hnt⟩
    · obtain ⟨u, e, nt⟩ := r.has b z
      exact ⟨u, by rw [upd_ne q]; exact e, nt⟩
  · rw [setO_eq] at h2
    by_cases q : n = i
    · subst q
      rw [List.getElem?_set_self (by rw [← r.len]; exact (List.getElem?_eq_some_iff.mp h).1)] at h2
      cases h2
      rw [h] at h1
      cases h1
      exact ho
    · rw [List.getElem?_set_ne q] at h2
      have nb : b ≠ a := fun z => by
        subst z
        exact q ((List.getElem?_inj (List.getElem?_eq_some_iff.mp h).1 r.nd).mp (h.trans h1.symm))
      have k := r.obs i b ob' h1 h2
      cases ob' with
      | lst ds =>
        obtain ⟨k1, c, vs, e1, k2, k3⟩ := k
        cases e1
        exact ⟨k1, b, vs, rfl, by rw [upd_ne nb]; exact k2, k3⟩
      | dct ks ws =>
        obtain ⟨k1, c, vs, e1, k2, k3⟩ := k
        cases e1
        refine ⟨k1, b, vs, rfl, k2, ?_⟩
        rw [upd_ne nb]
        exact k3
      | dead => trivial
  · have nb : b ≠ a := fun q => hb (by rw [q]; exact mem)
    rw [upd_ne nb]; exact e
  · by_cases q : b = a
    · subst q; exact ⟨o', upd_same⟩
    · exact ⟨u, by rw [upd_ne q]; exact e⟩
/-- a result reaches its end -/
theorem Fin.po {p : PR} {box : Bool} {v : V} {H' : Hp} (h : Fin T F ρ (mk box st p).2 (mk box st p).1 H Q) (r : Rl T F ρ st H) (q : PRo F H p v H') : Q v H' := by
  cases p with
  | d x =>
    rcases q with ⟨rfl, hx⟩ | ⟨ds, vs, p, rfl, hp, rfl, rfl, hx⟩
    · exact Fin.d (x := x) h r hx
    · exact Fin.tup (ds := ds) h r hx p hp
  | fresh ds =>
    obtain ⟨vs, p, hp, rfl, rfl, hx⟩ := q
    exact Fin.lst h r hx p hp
theorem nu_d {x : D} : W.d x ≠ .un := fun z => by cases z
theorem nu_ref {n : Nat} : W.ref n ≠ .un := fun z => by cases z
end
end Rf
/-! Rf8: expressions. -/
namespace Rf
open PySem PySem.Spec PyProof.Rows L2 PySem.W
/-- an expression that may stand anywhere: no star, no slice, no set -/
def plainE : Expr → Bool
  | .Starred .. => false
  | .Slice .. => false
  | .Set .. => false
  | _ => true
theorem starEach_plain {e : Expr} (h : plainE e = true) (es : List Expr) (env : PySem.Env) : starEach (e :: es) env = (false, eval e env) :: starEach es env := by
  cases e <;> first | rfl | cases h
theorem marks_plain {e : Expr} (h : plainE e = true) (op : CmpOp) : behindInMarks op e = false := by
  cases e <;> first | rfl | cases h
theorem subscripted_plain {e : Expr} (h : plainE e = true) (o i : Value) : subscripted e false o i = operate [o, i] (getItem o i) := by
  cases e <;> first | rfl | cases h
section
variable {cl : Calls} {env : Env} {st st' : St} {w : W}
theorem view2_inv {x y : W} {p q : D} (e : view2 st x y = some (p, q)) : view st x = some p ∧ view st y = some q := by
  unfold view2 at e
  cases h1 : view st x with
  | none => rw [h1] at e; cases e
  | some a =>
    rw [h1] at e
    cases h2 : view st y with
    | none => rw [h2] at e; cases e
    | some b => rw [h2] at e; cases e; exact ⟨rfl, rfl⟩
end
/-- values kept as data, from the left -/
def tDs (T : List Addr) (f : Env → St → Option (List D × St)) : TA := fun σ H Q => ∃ F ρ env st ds st', Rl T F ρ st H ∧ RE F ρ env σ ∧ f env st = some (ds, st') ∧
  ∀ F' ρ' H' vs, Step T F ρ H F' ρ' H' → Rl T F' ρ' st' H' → RDs F' ds vs → Q vs H'
def RWs (F : Hp) (ρ : List Addr) : List W → List V → Prop
  | [], vs => vs = []
  | w :: ws, vs => ∃ v r, vs = v :: r ∧ RW F ρ w v ∧ RWs F ρ ws r
def tWs (T : List Addr) (f : Env → St → Option (List W × St)) : TA := fun σ H Q => ∃ F ρ env st ws st', Rl T F ρ st H ∧ RE F ρ env σ ∧ f env st = some (ws, st') ∧
  ∀ F' ρ' H' vs, Step T F ρ H F' ρ' H' → Rl T F' ρ' st' H' → RWs F' ρ' ws vs → Q vs H'
theorem RWs.length {F : Hp} {ρ : List Addr} : ∀ {ws : List W} {vs : List V}, RWs F ρ ws vs → vs.length = ws.length
  | [], _, h => by cases h; rfl
  | w :: ws, vs, h => by
    obtain ⟨v, r, rfl, _, h2⟩ := h
    simp [RWs.length h2]
theorem RWs.step {T : List Addr} {F F' : Hp} {ρ ρ' : List Addr} {H H' : Hp} (s : Step T F ρ H F' ρ' H') : ∀ {ws : List W} {vs : List V}, RWs F ρ ws vs → RWs F' ρ' ws vs
  | [], _, h => h
  | w :: ws, vs, h => by
    obtain ⟨v, r, rfl, h1, h2⟩ := h
    exact ⟨v, r, rfl, h1.step s, RWs.step s h2⟩
section
variable {X : Cx} {T : List Addr} {cl : Calls} {pos : Pos} {a b c d e : Expr} {a' b' c' d' e' : E} {es : List Expr} {es' : List E}
theorem pv_lit {x : D} {v : V} {t : TE} (h : PE X e (tC v)) (hv : ∀ F, RD F x v) : PE X e (tEv T (ev cl (.lit x))) := h.mono fun σ H Q ⟨F, ρ, env, st, w, st', r, hE, e1, fin⟩ => by
  cases e1
  exact fin.d r (hv F)
theorem pv_var {i : Nat} {x : Str} (hN : X.N[i]? = some x) (hv : Vis X.env.scope x) (hn : okName x = true) : PE X (.Name x pos) (tEv T (ev cl (.var i))) := by
  unfold okName at hn
  rw [Bool.and_eq_true] at hn
  refine (pe_var hN hv (by simpa using hn.1) (by simpa using hn.2)).mono fun σ H Q ⟨F, ρ, env, st, w, st', r, hE, e1, fin⟩ => ?_
  simp only [ev] at e1
  cases q : getE env i with
  | un => rw [q] at e1; cases e1
  | d x =>
    rw [q] at e1
    cases e1
    obtain ⟨v, h1, h2⟩ := hE.get q nu_d
    exact ⟨v, h1, fin.val r h2⟩
  | ref n =>
    rw [q] at e1
    cases e1
    obtain ⟨v, h1, h2⟩ := hE.get q nu_ref
    exact ⟨v, h1, fin.val r h2⟩
theorem pa_D0 : PA X [] (tDs T (evD cl [])) := pa_nil.mono fun σ H Q ⟨F, ρ, env, st, ds, st', r, hE, e1, fin⟩ => by
  cases e1
  exact fin F ρ H [] Step.refl r rfl
theorem pa_D1 (hp : plainE e = true) (ha : PE X e (tEv T (ev cl e'))) (hr : PA X es (tDs T (evD cl es'))) : PA X (e :: es) (tDs T (evD cl (e' :: es'))) := (pa_cons ha hr (starEach_plain hp es X.env)).mono fun σ H Q ⟨F, ρ, env, st, ds, st', r, hE, e1, fin⟩ => by
  simp only [evD] at e1
  split at e1
  · split at e1
    · split at e1
      · rename_i w st1 h1 _ d st2 h2 _ ds st3 h3
        cases e1
        refine ⟨F, ρ, env, st, w, st1, r, hE, h1, fun F1 ρ1 H1 v s1 r1 w1 => ?_⟩
        obtain ⟨F2, s2, r2, w2⟩ := freeze_ok r1 w1 h2
        refine ⟨F2, ρ1, env, st2, ds, _, r2, (hE.step s1).step s2, h3, fun F3 ρ3 H3 vs s3 r3 w3 => ?_⟩
        exact fin F3 ρ3 H3 _ ((s1.trans s2).trans s3) r3 (RDs.cons (w2.le s3.le) w3)
      · cases e1
    · cases e1
  · cases e1
theorem pa_W0 : PA X [] (tWs T (evW cl [])) := pa_nil.mono fun σ H Q ⟨F, ρ, env, st, ds, st', r, hE, e1, fin⟩ => by
  cases e1
  exact fin F ρ H [] Step.refl r rfl
theorem pa_W1 (hp : plainE e = true) (ha : PE X e (tEv T (ev cl e'))) (hr : PA X es (tWs T (evW cl es'))) : PA X (e :: es) (tWs T (evW cl (e' :: es'))) := (pa_cons ha hr (starEach_plain hp es X.env)).mono fun σ H Q ⟨F, ρ, env, st, ds, st', r, hE, e1, fin⟩ => by
  simp only [evW] at e1
  split at e1
  · split at e1
    · rename_i w st1 h1 _ ws st2 h2
      cases e1
      refine ⟨F, ρ, env, st, w, st1, r, hE, h1, fun F1 ρ1 H1 v s1 r1 w1 => ?_⟩
      refine ⟨F1, ρ1, env, st1, ws, _, r1, hE.step s1, h2, fun F2 ρ2 H2 vs s2 r2 w2 => ?_⟩
      exact fin F2 ρ2 H2 _ (s1.trans s2) r2 ⟨v, vs, rfl, w1.step s2, w2⟩
    · cases e1
  · cases e1
theorem evD_length : ∀ {es : List E} {env : Env} {st st' : St} {ds : List D}, evD cl es env st = some (ds, st') → ds.length = es.length
  | [], _, _, _, _, h => by cases h; rfl
  | e :: es, env, st, st', ds, h => by
    simp only [evD] at h
    split at h
    · split at h
      · split at h
        · rename_i h3
          cases h
          rw [List.length_cons, evD_length h3, List.length_cons]
        · cases h
      · cases h
    · cases h
theorem pv_tup {k : Nat} (ha : PA X es (tDs T (evD cl es'))) (hl : es'.length ≤ 1000) : PE X (.Tuple es k pos) (tEv T (ev cl (.tup false es'))) := (pe_tup ha).mono fun σ H Q ⟨F, ρ, env, st, w, st', r, hE, e1, fin⟩ => by
  simp only [ev] at e1
  split at e1
  · rename_i ds st1 h1
    cases e1
    refine ⟨F, ρ, env, st, ds, _, r, hE, h1, fun F1 ρ1 H1 vs s1 r1 w1 => ⟨?_, (fin.step s1).tup r1 w1⟩⟩
    rw [w1.length, evD_length h1, sizeLine_eq]
    omega
  · cases e1
theorem pv_lst {box : Bool} (ha : PA X es (tDs T (evD cl es'))) (hl : es'.length ≤ 1000) : PE X (.List es pos) (tEv T (ev cl (.lst box es'))) := (pe_lst ha).mono fun σ H Q ⟨F, ρ, env, st, w, st', r, hE, e1, fin⟩ => by
  simp only [ev] at e1
  split at e1
  · rename_i ds st1 h1
    have e1 := Option.some.inj e1
    have e2 : w = (mk box st1 (.fresh ds)).1 := by rw [e1]
    have e3 : st' = (mk box st1 (.fresh ds)).2 := by rw [e1]
    subst e2 e3
    refine ⟨F, ρ, env, st, ds, _, r, hE, h1, fun F1 ρ1 H1 vs s1 r1 w1 => ⟨?_, (fin.step s1).lst r1 w1⟩⟩
    rw [w1.length, evD_length h1, sizeLine_eq]
    omega
  · cases e1
theorem pv_bin {o : Operator} {op : BOp} {box : Bool} (ho : bopOf o = some op) (ha : PE X a (tEv T (ev cl a'))) (hb : PE X b (tEv T (ev cl b'))) : PE X (.BinOp a o b pos) (tEv T (ev cl (.bin op box a' b'))) :=
  (pe_op (opD_bin ho) ha hb).mono fun σ H Q ⟨F, ρ, env, st, w, st', r, hE, e1, fin⟩ => by
    simp only [ev] at e1
    split at e1
    · split at e1
      · split at e1
        · split at e1
          · rename_i x st1 h1 _ y st2 h2 _ p q h3 _ res h4
            obtain ⟨v1, v2⟩ := view2_inv h3
            have e1 := Option.some.inj e1
            have e2 : w = (mk box st2 res).1 := by rw [e1]
            have e3 : st' = (mk box st2 res).2 := by rw [e1]
            subst e2 e3
            refine ⟨F, ρ, env, st, x, st1, r, hE, h1, fun F1 ρ1 H1 u1 s1 r1 w1 => ?_⟩
            refine ⟨F1, ρ1, env, st1, y, st2, r1, hE.step s1, h2, fun F2 ρ2 H2 u2 s2 r2 w2 => ?_⟩
            exact ⟨F2, p, q, res, r2.sub, view_ok r2 (w1.step s2) v1, view_ok r2 w2 v2, h4, fun v H' po => (fin.step (s1.trans s2)).po r2 po⟩
          · cases e1
        · cases e1
      · cases e1
    · cases e1
theorem pv_neg (ha : PE X a (tEv T (ev cl a'))) : PE X (.UnaryOp .USub a pos) (tEv T (ev cl (.neg a'))) := (pe_un un_neg ha).mono fun σ H Q ⟨F, ρ, env, st, w, st', r, hE, e1, fin⟩ => by
  simp only [ev] at e1
  split at e1
  · rename_i i st1 h1
    cases e1
    refine ⟨F, ρ, env, st, _, _, r, hE, h1, fun F1 ρ1 H1 u1 s1 r1 w1 => ?_⟩
    exact ⟨i, w1, (fin.step s1).d r1 rfl⟩
  · cases e1
theorem ofT3_inv {t : T3} {st st' : St} {w : W} (h : ofT3 t st = some (w, st')) : ∃ k, t = T3.of k ∧ w = .d (.bl k) ∧ st' = st := by
  cases t with
  | y => cases h; exact ⟨true, rfl, rfl, rfl⟩
  | n => cases h; exact ⟨false, rfl, rfl, rfl⟩
  | bad => cases h
theorem cmp_step (hu : X.A.units + 100 < cLine) {o : CmpOp} {σ : L2.St} {H : Hp} {Q : VK} (h : tEv T (ev cl (.cmp (copOf o) a' b')) σ H Q) : tOp (rC2 (cmpop (copOf o))) (tEv T (ev cl a')) (tEv T (ev cl b')) σ H Q := by
  obtain ⟨F, ρ, env, st, w, st', r, hE, e1, fin⟩ := h
  simp only [ev] at e1
  split at e1
  · split at e1
    · split at e1
      · rename_i x st1 h1 _ y st2 h2 _ p q h3
        obtain ⟨v1, v2⟩ := view2_inv h3
        obtain ⟨k, h4, rfl, rfl⟩ := ofT3_inv e1
        refine ⟨F, ρ, env, st, x, st1, r, hE, h1, fun F1 ρ1 H1 u1 s1 r1 w1 => ?_⟩
        refine ⟨F1, ρ1, env, st1, y, _, r1, hE.step s1, h2, fun F2 ρ2 H2 u2 s2 r2 w2 => ?_⟩
        exact ⟨F2, p, q, k, r2.sub, view_ok r2 (w1.step s2) v1, view_ok r2 w2 v2, h4, (fin.step (s1.trans s2)).d r2 rfl⟩
      · cases e1
    · cases e1
  · cases e1
/-- a test's reading, from a value's -/
theorem tTv_ev {f : Env → St → Rs} {σ : L2.St} {H : Hp} {Q : Bool → Hp → Prop} (h : tTv T f σ H Q) : tEv T f σ H (fun x H' => ∃ k, x = .bl k ∧ Q k H') := by
  obtain ⟨F, ρ, env, st, b, st', r, hE, e1, fin⟩ := h
  exact ⟨F, ρ, env, st, _, st', r, hE, e1, fun F1 ρ1 H1 u1 s1 r1 w1 => ⟨b, w1, fin F1 ρ1 H1 s1 r1⟩⟩
theorem pv_cmp (hu : X.A.units + 100 < cLine) {o : CmpOp} (hp : plainE b = true) (ha : PE X a (tEv T (ev cl a'))) (hb : PE X b (tEv T (ev cl b'))) : PE X (.Compare a [o] [b] pos) (tEv T (ev cl (.cmp (copOf o) a' b'))) :=
  (pe_cmpR (opC_cmp hu o) ha hb (marks_plain hp o)).mono fun σ H Q h => cmp_step hu h
theorem pt_cmp' (hu : X.A.units + 100 < cLine) {o : CmpOp} (hp : plainE b = true) (ha : PE X a (tEv T (ev cl a'))) (hb : PE X b (tEv T (ev cl b'))) : PT X (.Compare a [o] [b] pos) (tTv T (ev cl (.cmp (copOf o) a' b'))) :=
  (pt_cmpR (opC_cmp hu o) ha hb (marks_plain hp o)).mono fun σ H Q h => cmp_step hu (tTv_ev h)
theorem chain_step (hu : X.A.units + 100 < cLine) {o o' : CmpOp} {σ : L2.St} {H : Hp} {Q : VK} (h : tEv T (ev cl (.chain (copOf o) (copOf o') a' b' c')) σ H Q) :
    tChain (rC2 (cmpop (copOf o))) (rC2 (cmpop (copOf o'))) (tEv T (ev cl a')) (tEv T (ev cl b')) (tEv T (ev cl c')) σ H Q := by
  obtain ⟨F, ρ, env, st, w, st', r, hE, e1, fin⟩ := h
  simp only [ev] at e1
  split at e1
  · split at e1
    · split at e1
      · rename_i x st1 h1 _ y st2 h2 _ p q h3
        obtain ⟨v1, v2⟩ := view2_inv h3
        refine ⟨F, ρ, env, st, x, st1, r, hE, h1, fun F1 ρ1 H1 u1 s1 r1 w1 => ?_⟩
        refine ⟨F1, ρ1, env, st1, y, st2, r1, hE.step s1, h2, fun F2 ρ2 H2 u2 s2 r2 w2 => ?_⟩
        split at e1
        · rename_i h4
          split at e1
          · split at e1
            · rename_i z st3 h5 _ q' s h6
              obtain ⟨v3, v4⟩ := view2_inv h6
              obtain ⟨k, h7, rfl, rfl⟩ := ofT3_inv e1
              refine ⟨F2, p, q, true, r2.sub, view_ok r2 (w1.step s2) v1, view_ok r2 w2 v2, h4, true, rfl, ?_⟩
              rw [if_pos rfl]
              refine ⟨F2, ρ2, env, st2, z, _, r2, (hE.step s1).step s2, h5, fun F3 ρ3 H3 u3 s3 r3 w3 => ?_⟩
              exact ⟨F3, q', s, k, r3.sub, view_ok r3 (w2.step s3) v3, view_ok r3 w3 v4, h7, (fin.step ((s1.trans s2).trans s3)).d r3 rfl⟩
            · cases e1
          · cases e1
        · rename_i h4
          cases e1
          refine ⟨F2, p, q, false, r2.sub, view_ok r2 (w1.step s2) v1, view_ok r2 w2 v2, h4, false, rfl, ?_⟩
          rw [if_neg (by decide)]
          exact (fin.step (s1.trans s2)).d r2 rfl
        · cases e1
      · cases e1
    · cases e1
  · cases e1
theorem pv_chain (hu : X.A.units + 100 < cLine) {o o' : CmpOp} (hp : plainE c = true) (ha : PE X a (tEv T (ev cl a'))) (hb : PE X b (tEv T (ev cl b'))) (hc : PE X c (tEv T (ev cl c'))) : PE X (.Compare a [o, o'] [b, c] pos) (tEv T (ev cl (.chain (copOf o) (copOf o') a' b' c'))) :=
  (pe_chain (opC_cmp hu o) (opC_cmp hu o') ha hb hc (marks_plain hp o')).mono fun σ H Q h => chain_step hu h
theorem pt_chain' (hu : X.A.units + 100 < cLine) {o o' : CmpOp} (hp : plainE c = true) (ha : PE X a (tEv T (ev cl a'))) (hb : PE X b (tEv T (ev cl b'))) (hc : PE X c (tEv T (ev cl c'))) : PT X (.Compare a [o, o'] [b, c] pos) (tTv T (ev cl (.chain (copOf o) (copOf o') a' b' c'))) :=
  (pt_chain (opC_cmp hu o) (opC_cmp hu o') ha hb hc (marks_plain hp o')).mono fun σ H Q h => chain_step hu (tTv_ev h)
/-- a op b op b op b: three links -/
def tChain3 (r r' r2 : R2) (ta tb tc td : TE) : TE := fun σ H Q => ta σ H fun x H1 => tb σ H1 fun y H2 => r x y H2 fun z H3 => ∃ k, z = .bl k ∧
  (if k = true then tc σ H3 fun w H4 => r' y w H4 fun z' H5 => ∃ k', z' = .bl k' ∧ (if k' = true then td σ H5 fun u H6 => r2 w u H6 Q else Q (.bl false) H5) else Q (.bl false) H3)
theorem pe_chain3 {o o' o2 : CmpOp} {r r' r2 : R2} {ta tb tc td : TE} (ho : OpR X (compareOp o) r) (ho' : OpR X (compareOp o') r') (ho2 : OpR X (compareOp o2) r2) (ha : PE X a ta) (hb : PE X b tb) (hc : PE X c tc) (hd : PE X d td)
    (hm : lastMarks [o, o', o2] [b, c, d] = false) : PE X (.Compare a [o, o', o2] [b, c, d] pos) (tChain3 r r' r2 ta tb tc td) := by
  refine ⟨fun pins s σ H Q I h => ?_⟩
  refine Compare_chain (thn (ha.run pins s σ H _ I h) fun v s1 ⟨x, H1, I1, r1, q1⟩ => chain_link (thn (hb.run pins s1 σ H1 _ I1 q1) fun u s2 ⟨y, H2, I2, r2, q2⟩ =>
    thn (ho pins s2 σ H2 x y v u _ I2 r1 r2 q2) fun d s3 ⟨z, H3, I3, r3, k, e, q3⟩ => ?_)) hm
  subst e
  cases r3
  refine wpAny_truthy_bool ?_
  cases k with
  | false => exact ite_ff ⟨.bl false, H3, I3, rfl, q3⟩
  | true =>
    refine ite_tt (chain_link (thn (hc.run pins s3 σ H3 _ I3 q3) fun w' s4 ⟨z', H4, I4, r4, q4⟩ => thn (ho' pins s4 σ H4 y z' u w' _ I4 r2 r4 q4) fun d' s5 ⟨z2, H5, I5, r5, k', e', q5⟩ => ?_))
    subst e'
    cases r5
    refine wpAny_truthy_bool ?_
    cases k' with
    | false => exact ite_ff ⟨.bl false, H5, I5, rfl, q5⟩
    | true => exact ite_tt (chain_last (thn (hd.run pins s5 σ H5 _ I5 q5) fun w2 s6 ⟨z3, H6, I6, r6, q6⟩ => ho2 pins s6 σ H6 z' z3 w' w2 Q I6 r4 r6 q6))
theorem chain3_step (hu : X.A.units + 100 < cLine) {o o' o2 : CmpOp} {σ : L2.St} {H : Hp} {Q : VK} (h : tEv T (ev cl (.chain3 (copOf o) (copOf o') (copOf o2) a' b' c' d')) σ H Q) :
    tChain3 (rC2 (cmpop (copOf o))) (rC2 (cmpop (copOf o'))) (rC2 (cmpop (copOf o2))) (tEv T (ev cl a')) (tEv T (ev cl b')) (tEv T (ev cl c')) (tEv T (ev cl d')) σ H Q := by
  obtain ⟨F, ρ, env, st, w, st', r, hE, e1, fin⟩ := h
  simp only [ev] at e1
  split at e1
  · split at e1
    · split at e1
      · rename_i x st1 h1 _ y st2 h2 _ p q h3
        obtain ⟨v1, v2⟩ := view2_inv h3
        refine ⟨F, ρ, env, st, x, st1, r, hE, h1, fun F1 ρ1 H1 u1 s1 r1 w1 => ?_⟩
        refine ⟨F1, ρ1, env, st1, y, st2, r1, hE.step s1, h2, fun F2 ρ2 H2 u2 s2 r2 w2 => ?_⟩
        split at e1
        · rename_i h4
          split at e1
          · split at e1
            · rename_i z st3 h5 _ q' s h6
              obtain ⟨v3, v4⟩ := view2_inv h6
              refine ⟨F2, p, q, true, r2.sub, view_ok r2 (w1.step s2) v1, view_ok r2 w2 v2, h4, true, rfl, ?_⟩
              rw [if_pos rfl]
              refine ⟨F2, ρ2, env, st2, z, st3, r2, (hE.step s1).step s2, h5, fun F3 ρ3 H3 u3 s3 r3 w3 => ?_⟩
              split at e1
              · rename_i h7
                split at e1
                · split at e1
                  · rename_i u st4 h8 _ r' t h9
                    obtain ⟨v5, v6⟩ := view2_inv h9
                    obtain ⟨k, h10, rfl, rfl⟩ := ofT3_inv e1
                    refine ⟨F3, q', s, true, r3.sub, view_ok r3 (w2.step s3) v3, view_ok r3 w3 v4, h7, true, rfl, ?_⟩
                    rw [if_pos rfl]
                    refine ⟨F3, ρ3, env, st3, u, _, r3, ((hE.step s1).step s2).step s3, h8, fun F4 ρ4 H4 u4 s4 r4 w4 => ?_⟩
                    exact ⟨F4, r', t, k, r4.sub, view_ok r4 (w3.step s4) v5, view_ok r4 w4 v6, h10, (fin.step (((s1.trans s2).trans s3).trans s4)).d r4 rfl⟩
                  · cases e1
                · cases e1
              · rename_i h7
                cases e1
                refine ⟨F3, q', s, false, r3.sub, view_ok r3 (w2.step s3) v3, view_ok r3 w3 v4, h7, false, rfl, ?_⟩
                rw [if_neg (by decide)]
                exact (fin.step ((s1.trans s2).trans s3)).d r3 rfl
              · cases e1
            · cases e1
          · cases e1
        · rename_i h4
          cases e1
          refine ⟨F2, p, q, false, r2.sub, view_ok r2 (w1.step s2) v1, view_ok r2 w2 v2, h4, false, rfl, ?_⟩
          rw [if_neg (by decide)]
          exact (fin.step (s1.trans s2)).d r2 rfl
        · cases e1
      · cases e1
    · cases e1
  · cases e1
theorem pv_chain3 (hu : X.A.units + 100 < cLine) {o o' o2 : CmpOp} (hp : plainE d = true) (ha : PE X a (tEv T (ev cl a'))) (hb : PE X b (tEv T (ev cl b'))) (hc : PE X c (tEv T (ev cl c'))) (hd : PE X d (tEv T (ev cl d'))) :
    PE X (.Compare a [o, o', o2] [b, c, d] pos) (tEv T (ev cl (.chain3 (copOf o) (copOf o') (copOf o2) a' b' c' d'))) :=
  (pe_chain3 (opC_cmp hu o) (opC_cmp hu o') (opC_cmp hu o2) ha hb hc hd (marks_plain hp o2)).mono fun σ H Q h => chain3_step hu h
/-- a comparison as a test, by its value -/
theorem pt_chain3 {o o' o2 : CmpOp} {r r' r2 : R2} {ta tb tc td : TE} (ho : OpR X (compareOp o) r) (ho' : OpR X (compareOp o') r') (ho2 : OpR X (compareOp o2) r2) (ha : PE X a ta) (hb : PE X b tb) (hc : PE X c tc) (hd : PE X d td)
    (hm : lastMarks [o, o', o2] [b, c, d] = false) : PT X (.Compare a [o, o', o2] [b, c, d] pos) (tTest (tChain3 r r' r2 ta tb tc td)) := by
  refine ⟨fun pins s σ H Q I h => ?_⟩
  refine isTrue_chain (thn (ha.run pins s σ H _ I h) fun v s1 ⟨x, H1, I1, r1, q1⟩ => test_link (thn (hb.run pins s1 σ H1 _ I1 q1) fun u s2 ⟨y, H2, I2, r2, q2⟩ =>
    thn (ho pins s2 σ H2 x y v u _ I2 r1 r2 q2) fun d s3 ⟨z, H3, I3, r3, k, e, q3⟩ => ?_)) hm
  subst e
  cases r3
  refine wpAny_truthy_bool ?_
  cases k with
  | false =>
    obtain ⟨k', e', q'⟩ := q3
    cases e'
    exact ite_ff ⟨H3, I3, q'⟩
  | true =>
    refine ite_tt (test_link (thn (hc.run pins s3 σ H3 _ I3 q3) fun w' s4 ⟨z', H4, I4, r4, q4⟩ => thn (ho' pins s4 σ H4 y z' u w' _ I4 r2 r4 q4) fun d' s5 ⟨z2, H5, I5, r5, k', e', q5⟩ => ?_))
    subst e'
    cases r5
    refine wpAny_truthy_bool ?_
    cases k' with
    | false =>
      obtain ⟨k', e', q'⟩ := q5
      cases e'
      exact ite_ff ⟨H5, I5, q'⟩
    | true =>
      refine ite_tt (test_last (thn (hd.run pins s5 σ H5 _ I5 q5) fun w2 s6 ⟨z3, H6, I6, r6, q6⟩ => thn (ho2 pins s6 σ H6 z' z3 w' w2 _ I6 r4 r6 q6) fun d' s7 ⟨z2, H7, I7, r7, k2, e2, q7⟩ => ?_))
      subst e2
      cases r7
      exact wpAny_truthy_bool ⟨H7, I7, q7⟩
theorem pt_chain3' (hu : X.A.units + 100 < cLine) {o o' o2 : CmpOp} (hp : plainE d = true) (ha : PE X a (tEv T (ev cl a'))) (hb : PE X b (tEv T (ev cl b'))) (hc : PE X c (tEv T (ev cl c'))) (hd : PE X d (tEv T (ev cl d'))) :
    PT X (.Compare a [o, o', o2] [b, c, d] pos) (tTv T (ev cl (.chain3 (copOf o) (copOf o') (copOf o2) a' b' c' d'))) :=
  (pt_chain3 (opC_cmp hu o) (opC_cmp hu o') (opC_cmp hu o2) ha hb hc hd (marks_plain hp o2)).mono fun σ H Q h => chain3_step hu (tTv_ev h)
/-! and, or, not -/
variable {rest : List Expr}
theorem pv_and (ha : PE X a (tEv T (ev cl a'))) (hb : PE X (.BoolOp .And (b :: rest) pos) (tEv T (ev cl b'))) : PE X (.BoolOp .And (a :: b :: rest) pos) (tEv T (ev cl (.and_ a' b'))) := (pe_and ha hb).mono fun σ H Q ⟨F, ρ, env, st, w, st', r, hE, e1, fin⟩ => by
  simp only [ev] at e1
  split at e1
  · rename_i st1 h1
    refine ⟨F, ρ, env, st, _, _, r, hE, h1, fun F1 ρ1 H1 u1 s1 r1 w1 => ⟨true, w1, ?_⟩⟩
    rw [if_pos rfl]
    exact ⟨F1, ρ1, env, _, w, st', r1, hE.step s1, e1, fin.step s1⟩
  · rename_i st1 h1
    cases e1
    refine ⟨F, ρ, env, st, _, _, r, hE, h1, fun F1 ρ1 H1 u1 s1 r1 w1 => ⟨false, w1, ?_⟩⟩
    rw [if_neg (by decide)]
    exact (fin.step s1).d r1 rfl
  · cases e1
theorem pv_or (ha : PE X a (tEv T (ev cl a'))) (hb : PE X (.BoolOp .Or (b :: rest) pos) (tEv T (ev cl b'))) : PE X (.BoolOp .Or (a :: b :: rest) pos) (tEv T (ev cl (.or_ a' b'))) := (pe_or ha hb).mono fun σ H Q ⟨F, ρ, env, st, w, st', r, hE, e1, fin⟩ => by
  simp only [ev] at e1
  split at e1
  · rename_i st1 h1
    refine ⟨F, ρ, env, st, _, _, r, hE, h1, fun F1 ρ1 H1 u1 s1 r1 w1 => ⟨false, w1, ?_⟩⟩
    rw [if_neg (by decide)]
    exact ⟨F1, ρ1, env, _, w, st', r1, hE.step s1, e1, fin.step s1⟩
  · rename_i st1 h1
    cases e1
    refine ⟨F, ρ, env, st, _, _, r, hE, h1, fun F1 ρ1 H1 u1 s1 r1 w1 => ⟨true, w1, ?_⟩⟩
    rw [if_pos rfl]
    exact (fin.step s1).d r1 rfl
  · cases e1
theorem pv_one {op : BoolOp} (ha : PE X a (tEv T (ev cl a'))) : PE X (.BoolOp op [a] pos) (tEv T (ev cl a')) := pe_one ha
theorem pw_and' (ha : PT X a (tTv T (ev cl a'))) (hb : PW X (.BoolOp .And (b :: rest) pos) (tTv T (ev cl b'))) : PW X (.BoolOp .And (a :: b :: rest) pos) (tTv T (ev cl (.and_ a' b'))) := (pw_and ha hb).mono fun σ H Q ⟨F, ρ, env, st, k, st', r, hE, e1, fin⟩ => by
  simp only [ev] at e1
  split at e1
  · rename_i st1 h1
    refine ⟨F, ρ, env, st, _, _, r, hE, h1, fun F1 ρ1 H1 s1 r1 => ?_⟩
    show if true = true then _ else _
    rw [if_pos rfl]
    exact ⟨F1, ρ1, env, _, k, st', r1, hE.step s1, e1, fun F2 ρ2 H2 s2 r2 => fin F2 ρ2 H2 (s1.trans s2) r2⟩
  · rename_i st1 h1
    cases e1
    refine ⟨F, ρ, env, st, _, _, r, hE, h1, fun F1 ρ1 H1 s1 r1 => ?_⟩
    show if false = true then _ else _
    rw [if_neg (by decide)]
    exact fin F1 ρ1 H1 s1 r1
  · cases e1
theorem pw_or' (ha : PT X a (tTv T (ev cl a'))) (hb : PW X (.BoolOp .Or (b :: rest) pos) (tTv T (ev cl b'))) : PW X (.BoolOp .Or (a :: b :: rest) pos) (tTv T (ev cl (.or_ a' b'))) := (pw_or ha hb).mono fun σ H Q ⟨F, ρ, env, st, k, st', r, hE, e1, fin⟩ => by
  simp only [ev] at e1
  split at e1
  · rename_i st1 h1
    refine ⟨F, ρ, env, st, _, _, r, hE, h1, fun F1 ρ1 H1 s1 r1 => ?_⟩
    show if false = true then _ else _
    rw [if_neg (by decide)]
    exact ⟨F1, ρ1, env, _, k, st', r1, hE.step s1, e1, fun F2 ρ2 H2 s2 r2 => fin F2 ρ2 H2 (s1.trans s2) r2⟩
  · rename_i st1 h1
    cases e1
    refine ⟨F, ρ, env, st, _, _, r, hE, h1, fun F1 ρ1 H1 s1 r1 => ?_⟩
    show if true = true then _ else _
    rw [if_pos rfl]
    exact fin F1 ρ1 H1 s1 r1
  · cases e1
theorem not_inv {f : Env → St → Rs} {env : Env} {st st' : St} {w : W} (e : (match f env st with | some (.d (.bl b), st1) => some (W.d (.bl (!b)), st1) | _ => none) = some (w, st')) : ∃ b, f env st = some (.d (.bl b), st') ∧ w = .d (.bl (!b)) := by
  split at e
  · rename_i b st1 h1
    cases e
    exact ⟨b, h1, rfl⟩
  · cases e
theorem pt_not' (ha : PT X a (tTv T (ev cl a'))) : PT X (.UnaryOp .Not a pos) (tTv T (ev cl (.not_ a'))) := (pt_not ha).mono fun σ H Q ⟨F, ρ, env, st, k, st', r, hE, e1, fin⟩ => by
  simp only [ev] at e1
  obtain ⟨k2, h1, e2⟩ := not_inv e1
  cases e2
  exact ⟨F, ρ, env, st, k2, st', r, hE, h1, fun F1 ρ1 H1 s1 r1 => fin F1 ρ1 H1 s1 r1⟩
theorem ite_inv {f : Env → St → Rs} {g h : St → Rs} {env : Env} {st st' : St} {w : W} (e : (match f env st with | some (.d (.bl true), st1) => g st1 | some (.d (.bl false), st1) => h st1 | _ => none) = some (w, st')) :
    ∃ b st1, f env st = some (.d (.bl b), st1) ∧ (if b = true then g st1 else h st1) = some (w, st') := by
  split at e
  · rename_i st1 h1
    exact ⟨true, st1, h1, by rw [if_pos rfl]; exact e⟩
  · rename_i st1 h1
    exact ⟨false, st1, h1, by rw [if_neg (by decide)]; exact e⟩
  · cases e
theorem pv_ite (hc : PT X c (tTv T (ev cl c'))) (ha : PE X a (tEv T (ev cl a'))) (hb : PE X b (tEv T (ev cl b'))) : PE X (.IfExp c a b pos) (tEv T (ev cl (.ite c' a' b'))) := (pe_ifExp hc ha hb).mono fun σ H Q ⟨F, ρ, env, st, w, st', r, hE, e1, fin⟩ => by
  simp only [ev] at e1
  obtain ⟨k, st1, h1, h2⟩ := ite_inv (g := fun st1 => ev cl a' env st1) (h := fun st1 => ev cl b' env st1) e1
  refine ⟨F, ρ, env, st, k, st1, r, hE, h1, fun F1 ρ1 H1 s1 r1 => ?_⟩
  cases k with
  | true =>
    rw [if_pos rfl] at h2 ⊢
    exact ⟨F1, ρ1, env, st1, w, st', r1, hE.step s1, h2, fin.step s1⟩
  | false =>
    rw [if_neg (by decide)] at h2 ⊢
    exact ⟨F1, ρ1, env, st1, w, st', r1, hE.step s1, h2, fin.step s1⟩
end
end Rf
/-! Rf9: truth, subscripts, slices. -/
namespace Rf
open PySem PySem.Spec PyProof.Rows L2 PySem.W
theorem notNil_eq {α β : Type} {xs : List α} {ys : List β} (h : ys.length = xs.length) : notNil xs = !ys.isEmpty := by
  cases xs with
  | nil => cases ys with | nil => rfl | cons _ _ => cases h
  | cons _ _ => cases ys with | nil => cases h | cons _ _ => rfl
theorem strlen (s : List Nat) : (⟨s.toArray⟩ : Str).length = s.length := by simp [Str.length]
theorem truth_ok {K : PySem.W.Frag} {F H : Hp} {d : D} {x : V} {b : Bool} (l : Le F H) (h : RT F H d x) (e : truth d = some b) : TruV K x H b := by
  cases d with
  | non => cases h; cases e; rfl
  | bl k => cases h; cases e; rfl
  | int i =>
    cases h; cases e
    show (!(ieq i 0)) = (i != 0)
    rw [ieq_eq]
    rfl
  | str s =>
    cases h
    have e : (match lenOk s with | true => some (notNil s) | false => none) = some b := e
    cases hl : lenOk s with
    | false => rw [hl] at e; cases e
    | true =>
      rw [hl] at e
      cases e
      have h1 := lenOk_le hl
      have h2 := line_MAXL
      refine ⟨by rw [strlen]; omega, ?_⟩
      rw [strlen]
      cases s with
      | nil => rfl
      | cons a r =>
        show true = (((a :: r).length : Int) != 0)
        have : (((a :: r).length : Nat) : Int) ≠ 0 := by rw [List.length_cons]; omega
        simp
        omega
  | tup k ds =>
    obtain ⟨a, vs, rfl, h1, h2⟩ := (h : RD F (.tup k ds) x)
    cases e
    exact .inr (.inl ⟨vs, h1.sq l, notNil_eq h2.length⟩)
  | lst ds =>
    obtain ⟨a, vs, rfl, h1, h2⟩ := h
    cases e
    exact .inl ⟨vs, SqL.of h1, notNil_eq h2.length⟩
  | dct _ _ => cases e
theorem ixN_eq (n : Nat) (i : Int) : Rf.ixN n i = L2.ixN n i := by
  cases i with
  | ofNat k =>
    show (match Nat.blt k n with | true => some k | false => none) = if (0 : Int) ≤ (k : Int) then (if (k : Int) < n then some (k : Int).toNat else none) else _
    rw [if_pos (by omega)]
    by_cases h : k < n
    · have e : Nat.blt k n = true := by simpa using h
      rw [e, if_pos (by omega)]
      simp
    · have e : Nat.blt k n = false := by
        cases q : Nat.blt k n with
        | false => rfl
        | true => exact absurd (by simpa using q) h
      rw [e, if_neg (by omega)]
  | negSucc k =>
    show (match Nat.blt k n with | true => some (n - (k + 1)) | false => none) = L2.ixN n (Int.negSucc k)
    unfold L2.ixN
    have e1 : Int.negSucc k = -((k : Int) + 1) := Int.negSucc_eq k
    rw [e1]
    have n0 : ¬ (0 : Int) ≤ -((k : Int) + 1) := by omega
    rw [if_neg n0]
    by_cases h : k < n
    · have e : Nat.blt k n = true := by simpa using h
      have p0 : -(n : Int) ≤ -((k : Int) + 1) := by omega
      rw [e, if_pos p0]
      show some (n - (k + 1)) = some _
      congr 1
      omega
    · have e : Nat.blt k n = false := by
        cases q : Nat.blt k n with
        | false => rfl
        | true => exact absurd (by simpa using q) h
      rw [e, if_neg (by omega)]
theorem atD_ok {F : Hp} {ds : List D} {vs : List V} {i : Int} {d : D} (h : RDs F ds vs) (e : atD ds i = some d) : ∃ v, atI vs i = some v ∧ RD F d v := by
  unfold atD at e
  rw [ixN_eq, ← h.length] at e
  unfold atI
  cases q : L2.ixN vs.length i with
  | none => rw [q] at e; cases e
  | some k =>
    rw [q] at e
    exact h.nth e
theorem sIx_eq (n d : Nat) (o : Option Int) : Rf.sIx n d o = HT.sIx n d o := by
  cases o with
  | none => rfl
  | some v =>
    unfold HT.sIx
    cases v with
    | ofNat k =>
      show (match Nat.ble k n with | true => k | false => n) = if (k : Int) < 0 then _ else min (k : Int).toNat n
      rw [if_neg (by omega)]
      by_cases h : k ≤ n
      · have e : Nat.ble k n = true := Nat.ble_eq_true_of_le h
        rw [e]
        show k = min (k : Int).toNat n
        omega
      · have e : Nat.ble k n = false := by
          cases q : Nat.ble k n with
          | false => rfl
          | true => exact absurd (Nat.le_of_ble_eq_true q) h
        rw [e]
        show n = min (k : Int).toNat n
        omega
    | negSucc k =>
      show n - (k + 1) = if Int.negSucc k < 0 then (Int.negSucc k + (n : Int)).toNat else _
      have e1 : Int.negSucc k = -((k : Int) + 1) := Int.negSucc_eq k
      rw [e1, if_pos (by omega)]
      omega
theorem cut_ok {F : Hp} {ds : List D} {vs : List V} (h : RDs F ds vs) (lo hi : Option Int) : RDs F (cut ds lo hi) (cutV vs lo hi) := by
  unfold cut cutV
  rw [sIx_eq, sIx_eq, h.length]
  exact (h.drop _).take _
section
variable {X : Cx} {T : List Addr} {cl : Calls} {pos : Pos} {a b c d e : Expr} {a' b' c' d' e' : E} {es : List Expr} {es' : List E}
theorem tru_inv {σ : L2.St} {H : Hp} {Q : Bool → Hp → Prop} (h : tTv T (ev cl (.tru a')) σ H Q) : tEv T (ev cl a') σ H (fun x H' => ∃ k, TruV X.K x H' k ∧ Q k H') := by
  obtain ⟨F, ρ, env, st, b, st', r, hE, e1, fin⟩ := h
  simp only [ev] at e1
  split at e1
  · split at e1
    · split at e1
      · rename_i w st1 h1 _ d h2 _ k h3
        cases e1
        exact ⟨F, ρ, env, st, w, _, r, hE, h1, fun F1 ρ1 H1 v s1 r1 w1 => ⟨_, truth_ok r1.sub (view_ok r1 w1 h2) h3, fin F1 ρ1 H1 s1 r1⟩⟩
      · cases e1
    · cases e1
  · cases e1
/-- an expression whose test is its value's truth -/
def truE : Expr → Bool
  | .UnaryOp .Not _ _ => false
  | .BoolOp .. => false
  | .IfExp .. => false
  | .Compare .. => false
  | _ => true
theorem isTrue_truE {e : Expr} (h : truE e = true) (env : PySem.Env) (wh : Sem Value) : isTrue e env wh = (do let v ← wh; standAt e.pos; holding [v] (truthy v)) := by
  cases e with
  | UnaryOp op a p => cases op <;> first | rfl | cases h
  | BoolOp => cases h
  | IfExp => cases h
  | Compare => cases h
  | _ => rfl
theorem pt_tru (he : truE e = true) (ha : PE X e (tEv T (ev cl e'))) : PT X e (tTv T (ev cl (.tru e'))) := (pt_truth ha (isTrue_truE he X.env)).mono fun σ H Q h => tru_inv h
theorem pv_not (ha : PE X a (tEv T (ev cl a'))) : PE X (.UnaryOp .Not a pos) (tEv T (ev cl (.not_ (.tru a')))) := (pe_notT ha).mono fun σ H Q ⟨F, ρ, env, st, w, st', r, hE, e1, fin⟩ => by
  rw [ev] at e1
  obtain ⟨k, h1, rfl⟩ := not_inv (f := ev cl (.tru a')) e1
  exact tru_inv (Q := fun k H' => Q (.bl (!k)) H') ⟨F, ρ, env, st, k, st', r, hE, h1, fun F1 ρ1 H1 s1 r1 => (fin.step s1).d r1 rfl⟩
/-- if, as a test -/
theorem pt_ite' (hc : PT X c (tTv T (ev cl c'))) (ha : PT X a (tTv T (ev cl a'))) (hb : PT X b (tTv T (ev cl b'))) : PT X (.IfExp c a b pos) (tTv T (ev cl (.ite c' a' b'))) := by
  refine ⟨fun pins s σ H Q I ⟨F, ρ, env, st, k, st', r, hE, e1, fin⟩ => ?_⟩
  simp only [ev] at e1
  obtain ⟨k1, st1, h1, h2⟩ := ite_inv (g := fun st1 => ev cl a' env st1) (h := fun st1 => ev cl b' env st1) e1
  show wpAny _ _ (do if ← isTrue c X.env (eval c X.env) then isTrue a X.env (eval a X.env) else isTrue b X.env (eval b X.env)) _ _ s
  refine wpAny_bind (thn (hc.run pins s σ H (fun b H1 => if b = true then tTv T (ev cl a') σ H1 Q else tTv T (ev cl b') σ H1 Q) I ⟨F, ρ, env, st, k1, st1, r, hE, h1, fun F1 ρ1 H1 s1 r1 => ?_⟩) fun d s1 ⟨H1, I1, q1⟩ => ?_)
  · cases k1 with
    | true =>
      rw [if_pos rfl] at h2 ⊢
      exact ⟨F1, ρ1, env, st1, k, st', r1, hE.step s1, h2, fun F2 ρ2 H2 s2 r2 => fin F2 ρ2 H2 (s1.trans s2) r2⟩
    | false =>
      rw [if_neg (by decide)] at h2 ⊢
      exact ⟨F1, ρ1, env, st1, k, st', r1, hE.step s1, h2, fun F2 ρ2 H2 s2 r2 => fin F2 ρ2 H2 (s1.trans s2) r2⟩
  · cases d with
    | true => exact ha.run pins s1 σ H1 Q I1 q1
    | false => exact hb.run pins s1 σ H1 Q I1 q1
/-! subscripts -/
/-- what a subscript gives -/
def ixD (p q : D) : Option D := match p, q with
  | .lst ds, .int i => atD ds i
  | .tup _ ds, .int i => atD ds i
  | .str s, .int i => (match lenOk s with
    | true => (match ixN s.length i with
      | some k => (match nth s k with | some c => some (.str [c]) | none => none)
      | none => none)
    | false => none)
  | .dct ks vs, k => (match keyOk ks k with
    | true => lookD k ks vs
    | false => none)
  | _, _ => none
def rIxA : R2 := fun x y H Q => ∃ F p q d, Le F H ∧ RT F H p x ∧ RT F H q y ∧ ixD p q = some d ∧ ∀ v, RD F d v → Q v H
theorem ix_any (hu : X.A.units + 100 < cLine) : IxR X rIxA := by
  intro value slice pins s σ H x y v u Q I rx ry ⟨F, p, q, d, l, hp, hq, e, hQ⟩ hs
  cases p with
  | lst ds =>
    cases q with
    | int i =>
      obtain ⟨pa, vs, rfl, h1, h2⟩ := hp
      cases hq
      obtain ⟨w, h3, h4⟩ := atD_ok h2 e
      exact ix_list value slice pins s σ H _ _ v u Q I rx ry ⟨pa, vs, i, w, rfl, rfl, SqL.of h1, h3, hQ w h4⟩ hs
    | _ => cases e
  | tup k ds =>
    cases q with
    | int i =>
      obtain ⟨pa, vs, rfl, h1, h2⟩ := (hp : RD F (.tup k ds) x)
      cases hq
      obtain ⟨w, h3, h4⟩ := atD_ok h2 e
      exact ix_tup value slice pins s σ H _ _ v u Q I rx ry ⟨pa, vs, i, w, rfl, rfl, h1.sq l, h3, hQ w h4⟩ hs
    | _ => cases e
  | str z =>
    cases q with
    | int i =>
      have e : (match lenOk z with
        | true => (match Rf.ixN z.length i with
          | some k => (match nth z k with | some c => some (D.str [c]) | none => none)
          | none => none)
        | false => none) = some d := e
      cases hl : lenOk z with
      | false => rw [hl] at e; cases e
      | true =>
        rw [hl] at e
        have h1 := lenOk_le hl
        have h2 := line_MAXL
        cases hp
        cases hq
        cases hk : Rf.ixN z.length i with
        | none => simp only [hk] at e; cases e
        | some k =>
          simp only [hk] at e
          cases hc : nth z k with
          | none => rw [hc] at e; cases e
          | some c =>
            rw [hc] at e
            cases e
            refine ix_str value slice pins s σ H _ _ v u Q I rx ry ⟨_, i, c, rfl, rfl, by rw [strlen]; omega, ?_, hQ _ rfl⟩ hs
            unfold atI
            show (L2.ixN z.toArray.toList.length i).bind _ = _
            rw [List.toList_toArray, ← ixN_eq, hk]
            show z[k]? = some c
            rw [← nth_eq]
            exact hc
    | _ => cases e
  | dct ks ws =>
    have e : (match keyOk ks q with | true => lookD q ks ws | false => none) = some d := e
    cases hk : keyOk ks q with
    | false => rw [hk] at e; cases e
    | true =>
      rw [hk] at e
      obtain ⟨pa, rfl, κ, i, E, kk, kvs, mkd, kS, rfl, rfl, h5⟩ := keys_of l hp hk (hq.rd l)
      obtain ⟨H2, I2, g, bk⟩ := dget_any kS I
      cases rx
      have lv := lookD_val E kk h5
      have e : lookD (E.enc kk) (kvs.map fun p => E.enc p.1) ws = some d := e
      rw [e] at lv
      obtain ⟨w, h6, h7⟩ := lv
      rw [h6] at g
      exact tail_any (dict_typeIs I2 g) PySem.F.slot_dict_getitem.lookup (d_getItem (by omega) I2 g ry fun w' s' I' rw' => ⟨w, H, bk s' I', rw', hQ w h7⟩) hs
  | _ => cases q <;> cases e
theorem ev_ix {env : Env} {st st' : St} {w : W} (e : ev cl (.ix a' b') env st = some (w, st')) : ∃ x st1 y p q d, ev cl a' env st = some (x, st1) ∧ ev cl b' env st1 = some (y, st') ∧ view st' x = some p ∧ view st' y = some q ∧ ixD p q = some d ∧ w = .d d := by
  simp only [ev] at e
  split at e
  · split at e
    · rename_i x st1 h1 _ y st2 h2
      split at e
      · rename_i ds i h3
        obtain ⟨v1, v2⟩ := view2_inv h3
        cases h4 : atD ds i with
        | none => rw [h4] at e; cases e
        | some d => rw [h4] at e; cases e; exact ⟨x, st1, y, _, _, d, h1, h2, v1, v2, h4, rfl⟩
      · rename_i _ ds i h3
        obtain ⟨v1, v2⟩ := view2_inv h3
        cases h4 : atD ds i with
        | none => rw [h4] at e; cases e
        | some d => rw [h4] at e; cases e; exact ⟨x, st1, y, _, _, d, h1, h2, v1, v2, h4, rfl⟩
      · rename_i z i h3
        obtain ⟨v1, v2⟩ := view2_inv h3
        cases hl : lenOk z with
        | false => rw [hl] at e; cases e
        | true =>
          rw [hl] at e
          cases hk : ixN z.length i with
          | none => simp only [hk] at e; cases e
          | some k =>
            simp only [hk] at e
            cases hc : nth z k with
            | none => rw [hc] at e; cases e
            | some c =>
              rw [hc] at e
              cases e
              exact ⟨x, st1, y, _, _, .str [c], h1, h2, v1, v2, by simp only [ixD, hl, hk, hc], rfl⟩
      · rename_i ks vs k h3
        obtain ⟨v1, v2⟩ := view2_inv h3
        cases hk : keyOk ks k with
        | false => rw [hk] at e; cases e
        | true =>
          rw [hk] at e
          cases hd : lookD k ks vs with
          | none => simp only [hd] at e; cases e
          | some d =>
            simp only [hd] at e
            cases e
            exact ⟨x, st1, y, _, _, d, h1, h2, v1, v2, by simp only [ixD, hk, hd], rfl⟩
      · cases e
    · cases e
  · cases e
theorem pv_ix (hu : X.A.units + 100 < cLine) (hp : plainE b = true) (ha : PE X a (tEv T (ev cl a'))) (hb : PE X b (tEv T (ev cl b'))) : PE X (.Subscript a b pos) (tEv T (ev cl (.ix a' b'))) :=
  (pe_ix (ix_any hu) ha hb (subscripted_plain hp)).mono fun σ H Q ⟨F, ρ, env, st, w, st', r, hE, e1, fin⟩ => by
    obtain ⟨x, st1, y, p, q, d, h1, h2, v1, v2, h3, rfl⟩ := ev_ix e1
    refine ⟨F, ρ, env, st, x, st1, r, hE, h1, fun F1 ρ1 H1 u1 s1 r1 w1 => ?_⟩
    refine ⟨F1, ρ1, env, st1, y, st', r1, hE.step s1, h2, fun F2 ρ2 H2 u2 s2 r2 w2 => ?_⟩
    exact ⟨F2, p, q, d, r2.sub, view_ok r2 (w1.step s2) v1, view_ok r2 w2 v2, h3, fun v hv => (fin.step (s1.trans s2)).d r2 hv⟩
/-! slices -/
def tOv (T : List Addr) (f : Env → St → Option (Option Int × St)) : TO := fun σ H Q => ∃ F ρ env st o st', Rl T F ρ st H ∧ RE F ρ env σ ∧ f env st = some (o, st') ∧
  ∀ F' ρ' H', Step T F ρ H F' ρ' H' → Rl T F' ρ' st' H' → Q o H'
theorem _root_.L2.PO.mono {X : Cx} {e : Option Expr} {t t' : TO} (h : PO X e t) (m : ∀ σ H Q, t' σ H Q → t σ H Q) : PO X e t' := ⟨fun pins s σ H Q I q => h.run pins s σ H Q I (m σ H Q q)⟩
theorem po_0 : PO X none (tOv T (evO cl none)) := po_none.mono fun σ H Q ⟨F, ρ, env, st, o, st', r, hE, e1, fin⟩ => by
  cases e1
  exact fin F ρ H Step.refl r
theorem po_1 (ha : PE X e (tEv T (ev cl e'))) : PO X (some e) (tOv T (evO cl (some e'))) := (po_some ha).mono fun σ H Q ⟨F, ρ, env, st, o, st', r, hE, e1, fin⟩ => by
  simp only [evO] at e1
  split at e1
  · rename_i i st1 h1
    cases e1
    exact ⟨F, ρ, env, st, _, _, r, hE, h1, fun F1 ρ1 H1 u1 s1 r1 w1 => ⟨i, w1, fin F1 ρ1 H1 s1 r1⟩⟩
  · cases e1
theorem cut_whole {α : Type} (xs : List α) (lo hi : Option Int) (h : HT.sIx xs.length 0 lo = 0 ∧ HT.sIx xs.length xs.length hi = xs.length) : cut xs lo hi = xs := by
  unfold cut
  rw [sIx_eq, sIx_eq, h.1, h.2]
  simp
theorem pv_slc {box : Bool} {p2 : Pos} {lo hi : Option Expr} {lo' hi' : Option E} (ha : PE X a (tEv T (ev cl a'))) (hl : PO X lo (tOv T (evO cl lo'))) (hh : PO X hi (tOv T (evO cl hi'))) :
    PE X (.Subscript a (.Slice lo hi none p2) pos) (tEv T (ev cl (.slc box a' lo' hi'))) :=
  (pe_slice (sl_list.or (sl_tupA.or sl_str)) ha hl hh).mono fun σ H Q ⟨F, ρ, env, st, w, st', r, hE, e1, fin⟩ => by
    simp only [ev] at e1
    split at e1
    · split at e1
      · split at e1
        · rename_i x st1 h1 _ l st2 h2 _ h st3 h3
          refine ⟨F, ρ, env, st, x, st1, r, hE, h1, fun F1 ρ1 H1 u1 s1 r1 w1 => ?_⟩
          refine ⟨F1, ρ1, env, st1, l, st2, r1, hE.step s1, h2, fun F2 ρ2 H2 s2 r2 => ?_⟩
          refine ⟨F2, ρ2, env, st2, h, st3, r2, (hE.step s1).step s2, h3, fun F3 ρ3 H3 s3 r3 => ?_⟩
          have w3 := (w1.step s2).step s3
          have S := (s1.trans s2).trans s3
          split at e1
          · rename_i ds h4
            obtain ⟨pa, vs, rfl, h5, h6⟩ := view_ok r3 w3 h4
            have e1 := Option.some.inj e1
            have e2 : w = (mk box st3 (.fresh (cut ds l h))).1 := by rw [e1]
            have e3 : st' = (mk box st3 (.fresh (cut ds l h))).2 := by rw [e1]
            subst e2 e3
            exact .inl ⟨pa, vs, rfl, SqL.of h5, (fin.step S).lst r3 (cut_ok h6 l h)⟩
          · rename_i k ds h4
            obtain ⟨pa, vs, rfl, h5, h6⟩ := (view_ok r3 w3 h4 : RD F3 (.tup k ds) u1)
            cases e1
            refine .inr (.inl ⟨pa, vs, rfl, h5.sq r3.sub, fun hw => ?_, fun hw => ?_⟩)
            · rw [h6.length] at hw
              have e2 : cutT k ds l h = .tup k ds := by
                unfold cutT
                rw [sIx_eq, sIx_eq, hw.1, hw.2, Nat.beq_refl, Nat.beq_refl]
                rfl
              rw [e2] at fin
              exact (fin.step S).d r3 ⟨pa, vs, rfl, h5, h6⟩
            · rw [h6.length] at hw
              have e2 : cutT k ds l h = .tup false (cut ds l h) := by
                unfold cutT
                rw [sIx_eq, sIx_eq]
                cases q : Nat.beq (HT.sIx ds.length 0 l) 0 && Nat.beq (HT.sIx ds.length ds.length h) ds.length with
                | false => rfl
                | true =>
                  rw [Bool.and_eq_true] at q
                  exact absurd ⟨Nat.eq_of_beq_eq_true q.1, Nat.eq_of_beq_eq_true q.2⟩ hw
              rw [e2] at fin
              exact (fin.step S).tup r3 (cut_ok h6 l h)
          · rename_i z h4
            cases (view_ok r3 w3 h4 : RD F3 (.str z) u1)
            cases hz : lenOk z with
            | false => rw [hz] at e1; cases e1
            | true =>
              rw [hz] at e1
              cases e1
              have h7 := lenOk_le hz
              have h8 := line_MAXL
              refine .inr (.inr ⟨_, rfl, by rw [strlen]; omega, (fin.step S).d r3 ?_⟩)
              show V.str (cutS ⟨z.toArray⟩ l h) = V.str ⟨(cut z l h).toArray⟩
              unfold cutS cut
              rw [strlen, sIx_eq, sIx_eq]
          · cases e1
        · cases e1
      · cases e1
    · cases e1
end
end Rf
/-! Rf10: the store as it stands; calls. -/
namespace Rf
open PySem PySem.Spec PyProof.Rows L2 PySem.W
/-- the objects of the store known as data -/
def snapF (F : Hp) (ρ : List Addr) (H : Hp) : Hp := fun a => if a ∈ ρ then H a else F a
def unsnap (F : Hp) (ρ : List Addr) (F' : Hp) : Hp := fun a => if a ∈ ρ then F a else F' a
section
variable {T : List Addr} {F F' : Hp} {ρ ρ' : List Addr} {st st' st2 : St} {H H' : Hp} {w : W} {Q : VK} {v : V}
theorem snap_in {a : Addr} (h : a ∈ ρ) : snapF F ρ H a = H a := if_pos h
theorem snap_out {a : Addr} (h : a ∉ ρ) : snapF F ρ H a = F a := if_neg h
theorem unsnap_in {a : Addr} (h : a ∈ ρ) : unsnap F ρ F' a = F a := if_pos h
theorem unsnap_out {a : Addr} (h : a ∉ ρ) : unsnap F ρ F' a = F' a := if_neg h
theorem Rl.snap_le (r : Rl T F ρ st H) : Le F (snapF F ρ H) := fun a o e => by
  by_cases h : a ∈ ρ
  · rw [snap_in h]; exact r.sub a o e
  · rw [snap_out h]; exact e
theorem Rl.snap (r : Rl T F ρ st H) : Rl T (snapF F ρ H) [] [] H := by
  refine ⟨fun a o e => ?_, fun a z => ?_, r.tab, rfl, .nil, fun a z => absurd z (by simp), fun a z => absurd z (by simp), fun i a ob z => absurd z (by simp)⟩
  · by_cases h : a ∈ ρ
    · rw [snap_in h] at e; exact e
    · rw [snap_out h] at e; exact r.sub a o e
  · rw [snap_out (fun q => r.nTr a q z)]; exact r.nT a z
theorem Rl.none_ (r : Rl T F ρ st H) : Rl T F [] [] H :=
  ⟨r.sub, r.nT, r.tab, rfl, .nil, fun a z => absurd z (by simp), fun a z => absurd z (by simp), fun i a ob z => absurd z (by simp)⟩
theorem RW.snap {d : D} (r : Rl T F ρ st H) (h : RW F ρ w v) (e : view st w = some d) : RD (snapF F ρ H) d v := by
  cases w with
  | d x => cases e; exact RD.le r.snap_le h
  | un => cases e
  | ref n =>
    obtain ⟨a, h1, rfl⟩ := h
    have mem : a ∈ ρ := List.mem_of_getElem? h1
    have q := r.look h1
    cases ho : getO st n with
    | lst ds =>
      simp only [view, ho] at e
      rw [ho] at q
      cases e
      obtain ⟨_, b, vs, e1, h2, h3⟩ := q
      cases e1
      exact ⟨a, vs, rfl, by rw [snap_in mem]; exact h2, h3.le r.snap_le⟩
    | dct ks vs =>
      simp only [view, ho] at e
      rw [ho] at q
      cases e
      obtain ⟨_, b, us, e1, h2, h3⟩ := q
      cases e1
      refine ⟨a, us, rfl, h2.le r.snap_le, ?_⟩
      rw [snap_in mem]
      exact h3
    | dead => simp only [view, ho] at e; cases e
theorem RE.snap (r : Rl T F ρ st H) : ∀ {env : Env} {σ : L2.St}, RE F ρ env σ → RE (snapF F ρ H) [] (snapE true st env) σ
  | [], [], h => trivial
  | .d x :: env, o :: t, h => ⟨by
      rcases h.1 with h | ⟨v, h1, h2⟩
      · cases h
      · exact .inr ⟨v, h1, RD.le r.snap_le h2⟩, RE.snap r h.2⟩
  | .un :: env, o :: t, h => ⟨.inl rfl, RE.snap r h.2⟩
  | .ref n :: env, o :: t, h => ⟨by
      show (match view st (.ref n) with | some d => W.d d | none => W.un) = .un ∨ _
      cases hv : view st (.ref n) with
      | none => exact .inl rfl
      | some d =>
        rcases h.1 with h | ⟨v, h1, h2⟩
        · cases h
        · exact .inr ⟨v, h1, RW.snap r h2 hv⟩, RE.snap r h.2⟩
  | [], _ :: _, h => h.elim
  | .d _ :: _, [], h => h.elim
  | .un :: _, [], h => h.elim
  | .ref _ :: _, [], h => h.elim
theorem RE.hide : ∀ {env : Env} {σ : L2.St}, RE F ρ env σ → RE F [] (snapE false st env) σ
  | [], [], h => trivial
  | .d x :: env, o :: t, h => ⟨h.1, RE.hide h.2⟩
  | .un :: env, o :: t, h => ⟨.inl rfl, RE.hide h.2⟩
  | .ref n :: env, o :: t, h => ⟨.inl rfl, RE.hide h.2⟩
  | [], _ :: _, h => h.elim
  | .d _ :: _, [], h => h.elim
  | .un :: _, [], h => h.elim
  | .ref _ :: _, [], h => h.elim
/-- the store is as it was, behind what did not see it -/
theorem Rl.back (r : Rl T F ρ st H) (s : Step T F [] H F' ρ' H') (r' : Rl T F' ρ' st2 H') : Rl T F' ρ st H' ∧ Step T F ρ H F' ρ H' := by
  have pr : ∀ a ∈ ρ, ∀ o, H a = some o → H' a = some o := fun a z o e => s.pres a o e (r.nTr a z) (by simp)
  have nw : ∀ a o, F' a = some o → F a = some o ∨ H a = none := fun a o e => by
    rcases s.new a o e with h | h | h
    · exact .inl h
    · exact .inr h
    · cases h
  refine ⟨⟨r'.sub, r'.nT, r'.tab, r.len, r.nd, r.nTr, fun a z => ?_, fun i a ob h1 h2 => ?_⟩, s.le, fun a o e => ?_, ⟨[], by simp, fun _ z => absurd z (by simp)⟩, fun a o e hT _ => s.pres a o e hT (by simp), s.dom⟩
  · obtain ⟨o, e, nt⟩ := r.has a z
    exact ⟨o, pr a z o e, nt⟩
  · have z := List.mem_of_getElem? h1
    have q := r.obs i a ob h1 h2
    have nF : F a = none → F' a = none := fun n => by
      cases e : F' a with
      | none => rfl
      | some o =>
        obtain ⟨u, hu, _⟩ := r.has a z
        rcases nw a o e with k | k
        · rw [n] at k; cases k
        · rw [hu] at k; cases k
    cases ob with
    | lst ds =>
      obtain ⟨q1, b, vs, e1, q2, q3⟩ := q
      cases e1
      exact ⟨nF q1, a, vs, rfl, pr a z _ q2, q3.le s.le⟩
    | dct ks ws =>
      obtain ⟨q1, b, vs, e1, q2, q3⟩ := q
      cases e1
      refine ⟨nF q1, a, vs, rfl, q2.le s.le, ?_⟩
      rcases q3 with ⟨kvs, h3, h4⟩ | ⟨kvs, hn, h3, h4⟩
      · exact .inl ⟨kvs, pr a z _ h3, h4⟩
      · exact .inr ⟨kvs, hn, pr a z _ h3, h4⟩
    | dead => trivial
  · rcases nw a o e with k | k
    · exact .inl k
    · exact .inr (.inl k)
/-- .. behind what saw it as data -/
theorem Rl.unsnap (r : Rl T F ρ st H) (s : Step T (snapF F ρ H) [] H F' ρ' H') (r' : Rl T F' ρ' st2 H') : Rl T (unsnap F ρ F') ρ st H' ∧ Step T F ρ H (unsnap F ρ F') ρ H' ∧ ∀ k a vs, TupAt F' k a vs → TupAt (unsnap F ρ F') k a vs := by
  have pr : ∀ a ∈ ρ, ∀ o, H a = some o → H' a = some o := fun a z o e => s.pres a o e (r.nTr a z) (by simp)
  have nw : ∀ a o, a ∉ ρ → F' a = some o → F a = some o ∨ H a = none := fun a o hz e => by
    rcases s.new a o e with h | h | h
    · rw [snap_out hz] at h; exact .inl h
    · exact .inr h
    · cases h
  have le : Le F (Rf.unsnap F ρ F') := fun a o e => by
    by_cases h : a ∈ ρ
    · rw [unsnap_in h]; exact e
    · rw [unsnap_out h]; exact s.le a o (by rw [snap_out h]; exact e)
  refine ⟨⟨fun a o e => ?_, fun a z => ?_, r'.tab, r.len, r.nd, r.nTr, fun a z => ?_, fun i a ob h1 h2 => ?_⟩, ⟨le, fun a o e => ?_, ⟨[], by simp, fun _ z => absurd z (by simp)⟩, fun a o e hT _ => s.pres a o e hT (by simp), s.dom⟩, fun k a vs e => ?_⟩
  · by_cases h : a ∈ ρ
    · rw [unsnap_in h] at e; exact pr a h o (r.sub a o e)
    · rw [unsnap_out h] at e; exact r'.sub a o e
  · rw [unsnap_out (fun q => r.nTr a q z)]; exact r'.nT a z
  · obtain ⟨o, e, nt⟩ := r.has a z
    exact ⟨o, pr a z o e, nt⟩
  · have z := List.mem_of_getElem? h1
    have q := r.obs i a ob h1 h2
    cases ob with
    | lst ds =>
      obtain ⟨q1, b, vs, e1, q2, q3⟩ := q
      cases e1
      exact ⟨by rw [unsnap_in z]; exact q1, a, vs, rfl, pr a z _ q2, q3.le le⟩
    | dct ks ws =>
      obtain ⟨q1, b, vs, e1, q2, q3⟩ := q
      cases e1
      refine ⟨by rw [unsnap_in z]; exact q1, a, vs, rfl, q2.le le, ?_⟩
      rcases q3 with ⟨kvs, h3, h4⟩ | ⟨kvs, hn, h3, h4⟩
      · exact .inl ⟨kvs, pr a z _ h3, h4⟩
      · exact .inr ⟨kvs, hn, pr a z _ h3, h4⟩
    | dead => trivial
  · by_cases h : a ∈ ρ
    · exact .inr (.inr h)
    · rw [unsnap_out h] at e
      rcases nw a o h e with k | k
      · exact .inl k
      · exact .inr (.inl k)
  · by_cases h : a ∈ ρ
    · obtain ⟨o, e2, nt⟩ := r.has a h
      have e3 := pr a h o e2
      cases k with
      | false =>
        have e : F' a = some (.tup vs) := e
        rw [r'.sub a _ e] at e3
        exact absurd (Option.some.inj e3).symm (nt.1 vs)
      | true =>
        obtain ⟨b, e, _⟩ := e
        rw [r'.sub a _ e] at e3
        exact absurd (Option.some.inj e3).symm (nt.2 b _)
    · cases k with
      | false => show Rf.unsnap F ρ F' a = _; rw [unsnap_out h]; exact e
      | true =>
        obtain ⟨b, e, d⟩ := e
        exact ⟨b, by rw [unsnap_out h]; exact e, d⟩
mutual
theorem RD.noL {F F' : Hp} (h : ∀ k a vs, TupAt F k a vs → TupAt F' k a vs) : ∀ (d : D) (n : Nat) (v : V), noL n d = true → RD F d v → RD F' d v
  | .non, n, v, k, r => r
  | .bl _, n, v, k, r => r
  | .int _, n, v, k, r => r
  | .str _, n, v, k, r => r
  | .tup q ds, 0, v, k, r => by simp [Rf.noL] at k
  | .tup q ds, n + 1, v, k, r => by
    obtain ⟨a, vs, e, h1, h2⟩ := r
    exact ⟨a, vs, e, h q a vs h1, RDs.noL h ds n vs (by simpa [Rf.noL] using k) h2⟩
  | .lst ds, n, v, k, r => by cases n <;> simp [Rf.noL] at k
  | .dct _ _, n, v, k, r => by cases n <;> simp [Rf.noL] at k
theorem RDs.noL {F F' : Hp} (h : ∀ k a vs, TupAt F k a vs → TupAt F' k a vs) : ∀ (ds : List D) (n : Nat) (vs : List V), (∀ d ∈ ds, Rf.noL n d = true) → RDs F ds vs → RDs F' ds vs
  | [], n, vs, k, r => r
  | d :: ds, n, vs, k, r => by
    obtain ⟨v, t, e, h1, h2⟩ := r
    exact ⟨v, t, e, RD.noL h d n v (k d (List.mem_cons_self ..)) h1, RDs.noL h ds n t (fun d hd => k d (List.mem_cons_of_mem _ hd)) h2⟩
end
theorem noLs_all : ∀ {ds : List D}, noLs ds = true → ∀ d ∈ ds, Rf.noL 60 d = true
  | [], _, d, h => by cases h
  | x :: ds, k, d, h => by
    rw [noLs, Bool.and_eq_true] at k
    rcases List.mem_cons.mp h with rfl | h
    · exact k.1
    · exact noLs_all k.2 d h
/-- a further object of the store -/
theorem Rl.add {p : Addr} {o : HO} {ob : Ob} (r : Rl T F ρ st H) (hp : H p = some o) (hnt : NT o) (hpT : p ∉ T) (hpr : p ∉ ρ) (ho : RO F H p ob) : Rl T F (ρ ++ [p]) (st ++ [ob]) H := by
  refine ⟨r.sub, r.nT, r.tab, by simp [r.len], ?_, fun a z => ?_, fun a z => ?_, fun i a ob' h1 h2 => ?_⟩
  · rw [List.nodup_append]
    refine ⟨r.nd, by simp, fun a ha b hb e => ?_⟩
    have e2 : b = p := by simpa using hb
    subst e e2
    exact hpr ha
  · rcases List.mem_append.mp z with z | z
    · exact r.nTr a z
    · have e : a = p := by simpa using z
      rw [e]; exact hpT
  · rcases List.mem_append.mp z with z | z
    · exact r.has a z
    · have e : a = p := by simpa using z
      rw [e]; exact ⟨o, hp, hnt⟩
  · by_cases hi : i < ρ.length
    · rw [List.getElem?_append_left hi] at h1
      rw [List.getElem?_append_left (by rw [← r.len]; exact hi)] at h2
      exact r.obs i a ob' h1 h2
    · rw [List.getElem?_append_right (by omega)] at h1
      rw [List.getElem?_append_right (by rw [← r.len]; omega), ← r.len] at h2
      have hi0 : i - ρ.length = 0 := by
        have := (List.getElem?_eq_some_iff.mp h1).1
        simp at this; omega
      rw [hi0] at h1 h2
      simp at h1 h2
      subst h1 h2
      exact ho
/-- back to the store: F2 is what is known now -/
theorem unpur_core {md box : Bool} {w2 : W} {F2 : Hp} (r : Rl T F ρ st H) (fin : Fin T F ρ st' w H Q) (e : unpur md box st (some (w2, st2)) = some (w, st')) (r2 : Rl T F' ρ' st2 H') (w' : RW F' ρ' w2 v)
    (rb : Rl T F2 ρ st H') (sb : Step T F ρ H F2 ρ H') (gr : ∃ more, ρ' = more ∧ ∀ a ∈ more, H a = none) (kd : ∀ d v, (md = true → noL 60 d = true) → RD F' d v → RD F2 d v) (kn : ∀ a, H a = none → F' a = none → F2 a = none) : Q v H' := by
  obtain ⟨more, rfl, gr⟩ := gr
  have kds : ∀ (ds : List D) (vs : List V), (md = true → noLs ds = true) → RDs F' ds vs → RDs F2 ds vs := by
    intro ds
    induction ds with
    | nil => intro vs _ h; exact h
    | cons d ds ih =>
      intro vs k h
      obtain ⟨v, t, rfl, h1, h2⟩ := h
      refine RDs.cons (kd d v (fun m => ?_) h1) (ih t (fun m => ?_) h2)
      · have := k m
        rw [noLs, Bool.and_eq_true] at this
        exact this.1
      · have := k m
        rw [noLs, Bool.and_eq_true] at this
        exact this.2
  cases w2 with
  | un => cases e
  | d d =>
    have e : (match !md || noL 60 d with | true => some (W.d d, st) | false => none) = some (w, st') := e
    cases hm : !md || noL 60 d with
    | false => rw [hm] at e; cases e
    | true =>
      rw [hm] at e
      cases e
      refine fin F2 ρ H' v sb rb (kd d v (fun m => ?_) w')
      rw [m] at hm
      simpa using hm
  | ref n =>
    obtain ⟨p, hp, rfl⟩ := w'
    match n, st2, e, hp, r2 with
    | 0, [ob], e, hp, r2 =>
      have e : (match !md || noOb ob with | true => putOb box st ob | false => none) = some (w, st') := e
      have hpm : p ∈ ρ' := List.mem_of_getElem? hp
      have hpH : H p = none := gr p hpm
      have hpr : p ∉ ρ := fun z => by
        obtain ⟨o, q, _⟩ := r.has p z
        rw [hpH] at q; cases q
      obtain ⟨o, hpo, hnt⟩ := r2.has p hpm
      have hob := r2.obs 0 p ob hp rfl
      cases hm : !md || noOb ob with
      | false => rw [hm] at e; cases e
      | true =>
        rw [hm] at e
        have ro : RO F2 H' p ob := by
          cases ob with
          | lst ds =>
            obtain ⟨q1, b, vs, e1, q2, q3⟩ := hob
            cases e1
            refine ⟨kn p hpH q1, p, vs, rfl, q2, kds ds vs (fun m => ?_) q3⟩
            rw [m] at hm
            simpa [noOb] using hm
          | dct ks ws =>
            obtain ⟨q1, b, vs, e1, q2, q3⟩ := hob
            cases e1
            refine ⟨kn p hpH q1, p, vs, rfl, kds ws vs (fun m => ?_) q2, q3⟩
            rw [m] at hm
            simpa [noOb] using hm
          | dead => trivial
        have ra := rb.add hpo hnt (r2.nTr p hpm) hpr ro
        have sa : Step T F ρ H F2 (ρ ++ [p]) H' := ⟨sb.le, sb.new, ⟨[p], rfl, fun a z => by
          have e : a = p := by simpa using z
          rw [e]; exact hpH⟩, sb.pres, sb.dom⟩
        have hl : (ρ ++ [p])[st.length]? = some p := by rw [← r.len]; simp
        cases box with
        | true =>
          cases e
          exact fin F2 (ρ ++ [p]) H' _ sa ra ⟨p, hl, rfl⟩
        | false =>
          -- kept as data
          have fr : ∀ d stx, freeze (st ++ [ob]) (.ref st.length) = some (d, stx) → w = .d d → st' = st → Q (.ref p) H' := fun d stx hf ew es => by
            subst ew es
            obtain ⟨F3, s3, r3, w3⟩ := freeze_ok (v := .ref p) (w := .ref st'.length) ra ⟨p, hl, rfl⟩ hf
            have s4 : Step T F ρ H F3 ρ H' := by
              have q := sa.trans s3
              exact ⟨q.le, q.new, ⟨[], by simp, fun _ z => absurd z (by simp)⟩, q.pres, q.dom⟩
            refine fin F3 ρ H' _ s4 ⟨r3.sub, r3.nT, r3.tab, rb.len, rb.nd, rb.nTr, rb.has, fun i a ob' h1 h2 => ?_⟩ w3
            have hi : i < ρ.length := (List.getElem?_eq_some_iff.mp h1).1
            have hset : stx[i]? = some ob' := by
              have hx : stx = setO (st' ++ [ob]) st'.length .dead := by
                unfold freeze at hf
                cases hg : getO (st' ++ [ob]) st'.length with
                | lst ds => simp only [hg] at hf; cases hf; rfl
                | dct ks vs => simp only [hg] at hf; cases hf; rfl
                | dead => simp only [hg] at hf; cases hf
              rw [hx, setO_eq, List.getElem?_set_ne (by rw [← r.len]; omega), List.getElem?_append_left (by rw [← r.len]; exact hi)]
              exact h2
            exact r3.obs i a ob' (by rw [List.getElem?_append_left hi]; exact h1) hset
          have hg : getO (st ++ [ob]) st.length = ob := by rw [getO_eq]; simp
          cases ob with
          | lst ds =>
            cases e
            exact fr (.lst ds) (setO (st ++ [.lst ds]) st.length .dead) (by simp only [freeze, hg]) rfl rfl
          | dct ks vs =>
            cases e
            exact fr (.dct ks vs) (setO (st ++ [.dct ks vs]) st.length .dead) (by simp only [freeze, hg]) rfl rfl
          | dead => cases e
    | 0, [], e, hp, r2 => cases e
    | 0, _ :: _ :: _, e, hp, r2 => cases e
    | n + 1, st2, e, hp, r2 => cases e
end
section
variable {X : Cx} {T : List Addr} {cl : Calls} {e : Expr} {e' : E}
theorem pur_step {md box : Bool} {σ : L2.St} {H : Hp} {Q : VK} (h : tEv T (ev cl (.pur md box e')) σ H Q) : tEv T (ev cl e') σ H Q := by
  obtain ⟨F, ρ, env, st, w, st', r, hE, e1, fin⟩ := h
  simp only [ev] at e1
  cases st with
  | nil =>
    have hr : ρ = [] := List.eq_nil_of_length_eq_zero (by rw [r.len]; rfl)
    subst hr
    have e1 : unpur false box [] (ev cl e' env []) = some (w, st') := e1
    cases h : ev cl e' env [] with
    | none => rw [h] at e1; cases e1
    | some p =>
      obtain ⟨w2, st2⟩ := p
      rw [h] at e1
      refine ⟨F, [], env, [], w2, st2, r, hE, h, fun F' ρ' H' v s' r' w' => ?_⟩
      obtain ⟨rb, sb⟩ := r.back s' r'
      exact unpur_core r fin e1 r' w' rb sb (by obtain ⟨m, e2, n⟩ := s'.grow; exact ⟨m, by simpa using e2, n⟩) (fun d v _ k => k) fun a _ k => k
  | cons o0 st0 =>
    have e1 : unpur md box (o0 :: st0) (ev cl e' (snapE md (o0 :: st0) env) []) = some (w, st') := e1
    cases h : ev cl e' (snapE md (o0 :: st0) env) [] with
    | none => rw [h] at e1; cases e1
    | some p =>
      obtain ⟨w2, st2⟩ := p
      rw [h] at e1
      cases md with
      | false =>
        refine ⟨F, [], _, [], w2, st2, r.none_, hE.hide, h, fun F' ρ' H' v s' r' w' => ?_⟩
        obtain ⟨rb, sb⟩ := r.back s' r'
        exact unpur_core r fin e1 r' w' rb sb (by obtain ⟨m, e2, n⟩ := s'.grow; exact ⟨m, by simpa using e2, n⟩) (fun d v _ k => k) fun a _ k => k
      | true =>
        refine ⟨_, [], _, [], w2, st2, r.snap, RE.snap r hE, h, fun F' ρ' H' v s' r' w' => ?_⟩
        obtain ⟨rb, sb, tp⟩ := r.unsnap s' r'
        refine unpur_core r fin e1 r' w' rb sb (by obtain ⟨m, e2, n⟩ := s'.grow; exact ⟨m, by simpa using e2, n⟩) (fun d v k q => RD.noL tp d 60 v (k rfl) q) fun a hn k => ?_
        have na : a ∉ ρ := fun z => by
          obtain ⟨o, q, _⟩ := r.has a z
          rw [hn] at q; cases q
        rw [unsnap_out na]
        exact k
theorem pv_pur {md box : Bool} (ha : PE X e (tEv T (ev cl e'))) : PE X e (tEv T (ev cl (.pur md box e'))) := ha.mono fun σ H Q h => pur_step h
end
end Rf
/-! Rf11: calls of the module's functions. -/
namespace Rf
open PySem PySem.Spec PyProof.Rows L2 PySem.W
/-- what a function does with its arguments and the store it sees -/
abbrev Run := List W → St → Option (D × St)
def runF (fns : List Fn) (d : Nat) (f : Nat) : Run := fun ws st => match nth fns f with
  | some fn => (match start fn ws with
    | some env => rets (exs (calls fns d) fn.body env st)
    | none => none)
  | none => none
/-- a function's promise -/
def spG (T : List Addr) (run : Run) : Sp := fun vs H Q _ => ∃ F ρ st ws x st', Rl T F ρ st H ∧ RWs F ρ ws vs ∧ run ws st = some (x, st') ∧
  ∀ F' ρ' H' v, Step T F ρ H F' ρ' H' → Rl T F' ρ' st' H' → RD F' x v → Q v H'
theorem spG_imp {T : List Addr} {run run' : Run} (h : ∀ ws st r, run ws st = some r → run' ws st = some r) {vs : List V} {H : Hp} {Q : VK} {E : XK} (q : spG T run vs H Q E) : spG T run' vs H Q E := by
  obtain ⟨F, ρ, st, ws, x, st', r, w, e, fin⟩ := q
  exact ⟨F, ρ, st, ws, x, st', r, w, h _ _ _ e, fin⟩
/-- the function of a global name keeps it -/
def CallOk (X : Cx) (k : Nat) (T : List Addr) (x : Str) (run : Run) : Prop :=
  ∃ f fd ps, X.mg x = some (.ref f) ∧ keepIn X.K (.ref f) = true ∧ Binds X.K fd ps [] ∧ FnOk X.prog X.w X.K X.mg X.base CX0 k f fd ps (spG T run)
section
variable {T : List Addr} {F F' : Hp} {ρ ρ' : List Addr} {st st' : St} {H H' : Hp}
theorem RWs.plain : ∀ {ws : List W} {ds : List D} {vs : List V}, ws.any isRef = false → views st ws = some ds → RWs F ρ ws vs → RWs F [] (ds.map .d) vs
  | [], ds, vs, _, e, h => by cases e; exact h
  | w :: ws, ds, vs, n, e, h => by
    rw [List.any_cons, Bool.or_eq_false_iff] at n
    obtain ⟨v, r, rfl, h1, h2⟩ := h
    simp only [views] at e
    cases hv : view st w with
    | none => rw [hv] at e; cases e
    | some d =>
      rw [hv] at e
      cases hs : views st ws with
      | none => simp only [hs] at e; cases e
      | some ds' =>
        simp only [hs] at e
        cases e
        refine ⟨v, r, rfl, ?_, RWs.plain n.2 hs h2⟩
        cases w with
        | d x => cases hv; exact h1
        | ref _ => cases n.1
        | un => cases hv
theorem RWs.snap (r : Rl T F ρ st H) : ∀ {ws : List W} {ds : List D} {vs : List V}, views st ws = some ds → RWs F ρ ws vs → RWs (snapF F ρ H) [] (ds.map .d) vs
  | [], ds, vs, e, h => by cases e; exact h
  | w :: ws, ds, vs, e, h => by
    obtain ⟨v, t, rfl, h1, h2⟩ := h
    simp only [views] at e
    cases hv : view st w with
    | none => rw [hv] at e; cases e
    | some d =>
      rw [hv] at e
      cases hs : views st ws with
      | none => simp only [hs] at e; cases e
      | some ds' =>
        simp only [hs] at e
        cases e
        exact ⟨v, t, rfl, RW.snap r h1 hv, RWs.snap r hs h2⟩
end
section
variable {X : Cx} {k : Nat} {T : List Addr} {cl : Calls} {x : Str} {p pos : Pos} {e : Expr} {es : List Expr} {es' : List E} {f : Nat} {run : Run}
/-- a reading over the arguments -/
theorem call_core {σ : L2.St} {H : Hp} {Q : VK} (hc : ∀ ds r, cl.call f ds = some r → ∃ st', run (ds.map .d) [] = some (r, st')) (h : tEv T (ev cl (.call f es')) σ H Q) : tCall (spG T run) [] E0 (tWs T (evW cl es')) σ H Q := by
  obtain ⟨F, ρ, env, st, w, st', r, hE, e1, fin⟩ := h
  simp only [ev] at e1
  split at e1
  · rename_i ws st1 h1
    split at e1
    · rename_i ds h2
      split at e1
      · rename_i res h3
        split at e1
        · rename_i h4
          cases e1
          obtain ⟨stx, h5⟩ := hc ds res h3
          refine ⟨F, ρ, env, st, ws, _, r, hE, h1, fun F1 ρ1 H1 vs s1 r1 w1 => ?_⟩
          show spG T run (vs ++ []) H1 Q E0
          rw [List.append_nil]
          cases hn : ws.any isRef with
          | false =>
            refine ⟨F1, [], [], _, res, stx, r1.none_, w1.plain hn h2, h5, fun F' ρ' H' v s' r' w' => ?_⟩
            obtain ⟨rb, sb⟩ := r1.back s' r'
            exact (fin.step s1) F' ρ1 H' v sb rb w'
          | true =>
            rw [hn] at h4
            have h4 : noL 60 res = true := h4
            refine ⟨_, [], [], _, res, stx, r1.snap, RWs.snap r1 h2 w1, h5, fun F' ρ' H' v s' r' w' => ?_⟩
            obtain ⟨rb, sb, tp⟩ := r1.unsnap s' r'
            exact (fin.step s1) _ ρ1 H' v sb rb (RD.noL tp res 60 v h4 w')
        · cases e1
      · cases e1
    · cases e1
  · cases e1
theorem okName_dbg {x : Str} (h : okName x = true) : (x == ("__debug__" : Str)) = false := by
  unfold okName at h
  rw [Bool.and_eq_true] at h
  simpa using h.1
theorem backTo_plain (pos : Pos) : ∀ (es : List Expr) (env : PySem.Env), es.all plainE = true → (backTo pos (starEach es env)).any (·.1) = false
  | [], env, _ => rfl
  | e :: es, env, h => by
    rw [List.all_cons, Bool.and_eq_true] at h
    rw [starEach_plain h.1]
    show (false || (backTo pos (starEach es env)).any (·.1)) = false
    rw [backTo_plain pos es env h.2]
    rfl
theorem pv_call (hc : ∀ ds r, cl.call f ds = some r → ∃ st', run (ds.map .d) [] = some (r, st')) (ok : CallOk X k T x run) (hr : Room k X.A) (hg : Gl X x) (hn : okName x = true) (hp : (e :: es).all plainE = true) (ha : PA X (e :: es) (tWs T (evW cl es'))) :
    PE X (.Call (.Name x p) (e :: es) [] pos) (tEv T (ev cl (.call f es'))) := by
  obtain ⟨fa, fd, ps, hm, hk, hb, F⟩ := ok
  rw [List.all_cons, Bool.and_eq_true] at hp
  exact (pe_call F hr hg hm hk hb .nil pass0 ha (okName_dbg hn) (starEach_plain hp.1 es X.env) (backTo_plain pos es X.env hp.2)).mono fun σ H Q h => call_core hc h
theorem pv_call0 (hc : ∀ ds r, cl.call f ds = some r → ∃ st', run (ds.map .d) [] = some (r, st')) (ok : CallOk X k T x run) (hr : Room k X.A) (hg : Gl X x) (hn : okName x = true) :
    PE X (.Call (.Name x p) [] [] pos) (tEv T (ev cl (.call f []))) := by
  obtain ⟨fa, fd, ps, hm, hk, hb, F⟩ := ok
  refine (pe_call0 F hr hg hm hk hb .nil pass0 (okName_dbg hn)).mono fun σ H Q h => ?_
  obtain ⟨F, ρ, env, st, ws, st', r, hE, e1, fin⟩ := call_core hc h
  cases e1
  exact fin F ρ H [] Step.refl r rfl
end
end Rf
/-! Rf12: targets, loops, statements. -/
namespace Rf
open PySem PySem.Spec PyProof.Rows L2 PySem.W
theorem _root_.L2.PG.mono {X : Cx} {e : Expr} {t t' : TG} (h : PG X e t) (m : ∀ v σ H Q, t' v σ H Q → t v σ H Q) : PG X e t' := ⟨fun pins s σ H v u Q I r q => h.run pins s σ H v u Q I r (m v σ H Q q)⟩
theorem _root_.L2.PGs.mono {X : Cx} {e : List Expr} {t t' : TGs} (h : PGs X e t) (m : ∀ v σ H Q, t' v σ H Q → t v σ H Q) : PGs X e t' := ⟨fun pins s σ H v u Q I r q => h.run pins s σ H v u Q I r (m v σ H Q q)⟩
/-! ### targets -/
mutual
def tgIn (vs : List Nat) : Rf.T → Bool
  | .nm i => vs.contains i
  | .tp ts => tgsIn vs ts
def tgsIn (vs : List Nat) : List Rf.T → Bool
  | [] => true
  | t :: ts => tgIn vs t && tgsIn vs ts
end
theorem wipe_in {σ : L2.St} {i : Nat} {o : Option V} : ∀ {vs : List Nat}, i ∈ vs → wipe (σ.set i o) vs = wipe σ vs
  | [], h => by cases h
  | v :: vs, h => by
    unfold wipe
    by_cases hv : v = i
    · subst hv
      by_cases hm : v ∈ vs
      · rw [wipe_in hm]
      · have q : ∀ (us : List Nat), v ∉ us → wipe (σ.set v o) us = (wipe σ us).set v o := by
          intro us
          induction us with
          | nil => intro _; rfl
          | cons u us ih =>
            intro hu
            unfold wipe
            rw [ih (fun z => hu (List.mem_cons_of_mem _ z)), List.set_comm _ _ (fun z => hu (by rw [z]; exact List.mem_cons_self ..))]
        rw [q vs hm, List.set_set]
    · rcases List.mem_cons.mp h with h | h
      · exact absurd h.symm hv
      · rw [wipe_in h]
/-- no slot but the target's own ones has changed -/
def Own (t : Rf.T) (σ σ' : L2.St) : Prop := ∀ vs, tgIn vs t = true → wipe σ' vs = wipe σ vs
def Owns (ts : List Rf.T) (σ σ' : L2.St) : Prop := ∀ vs, tgsIn vs ts = true → wipe σ' vs = wipe σ vs
def tTg (T : List Addr) (t : Rf.T) : TG := fun v σ H Q => ∃ F ρ env st d env', Rl T F ρ st H ∧ RE F ρ env σ ∧ RD F d v ∧ asgT t d env = some env' ∧ ∀ σ', RE F ρ env' σ' → Own t σ σ' → Q σ' H
def tTgs (T : List Addr) (ts : List Rf.T) : TGs := fun vs σ H Q => ∃ F ρ env st ds env', Rl T F ρ st H ∧ RE F ρ env σ ∧ RDs F ds vs ∧ asgTs ts ds env = some env' ∧ ∀ σ', RE F ρ env' σ' → Owns ts σ σ' → Q σ' H
theorem assignEach_plain {e : Expr} (h : plainE e = true) (es : List Expr) (env : PySem.Env) : assignEach (e :: es) env = (false, assign e env) :: assignEach es env := by
  cases e <;> first | rfl | cases h
theorem assignEach_len : ∀ (es : List Expr) (env : PySem.Env), es.all plainE = true → (assignEach es env).length = es.length ∧ (assignEach es env).findIdx? (·.1) = none
  | [], env, _ => ⟨rfl, rfl⟩
  | e :: es, env, h => by
    rw [List.all_cons, Bool.and_eq_true] at h
    obtain ⟨h1, h2⟩ := assignEach_len es env h.2
    rw [assignEach_plain h.1]
    refine ⟨by rw [List.length_cons, h1, List.length_cons], ?_⟩
    rw [List.findIdx?_cons, h2]
    rfl
section
variable {X : Cx} {T : List Addr} {pos : Pos} {e : Expr} {es : List Expr} {t : Rf.T} {ts : List Rf.T}
theorem pg_nm {i : Nat} {x : Str} (hN : X.N.Nodup) (hi : X.N[i]? = some x) (hx : Loc X.env.scope x) (hf : X.fn x = true ∨ X.env.scope.names.lookup x = some .local) : PG X (.Name x pos) (tTg T (.nm i)) :=
  (pg_name hN hi hx hf).mono fun v σ H Q ⟨F, ρ, env, st, d, env', r, hE, hd, e1, fin⟩ => by
    cases e1
    exact fin _ (hE.set hd) fun vs h => wipe_in (by simpa [tgIn] using h)
theorem pgs_0 : PGs X [] (tTgs T []) := pgs_nil.mono fun v σ H Q ⟨F, ρ, env, st, ds, env', r, hE, hd, e1, fin⟩ => by
  cases ds with
  | nil => cases e1; exact ⟨hd, fin _ hE fun vs h => rfl⟩
  | cons _ _ => cases e1
theorem pgs_1 (hp : plainE e = true) (h1 : PG X e (tTg T t)) (h2 : PGs X es (tTgs T ts)) : PGs X (e :: es) (tTgs T (t :: ts)) :=
  (pgs_cons h1 h2 (by rw [assignEach_plain hp]; rfl)).mono fun v σ H Q ⟨F, ρ, env, st, ds, env', r, hE, hd, e1, fin⟩ => by
    cases ds with
    | nil => cases e1
    | cons d ds =>
      obtain ⟨u, us, rfl, h3, h4⟩ := hd
      simp only [asgTs] at e1
      split at e1
      · rename_i env1 h5
        refine ⟨u, us, rfl, F, ρ, env, st, d, env1, r, hE, h3, h5, fun σ1 hE1 ow => ⟨F, ρ, env1, st, ds, env', r, hE1, h4, e1, fun σ2 hE2 ow2 => fin σ2 hE2 fun vs h => ?_⟩⟩
        rw [tgsIn, Bool.and_eq_true] at h
        rw [ow2 vs h.2, ow vs h.1]
      · cases e1
theorem asgTs_len : ∀ {ts : List Rf.T} {ds : List D} {env env' : Env}, asgTs ts ds env = some env' → ds.length = ts.length
  | [], [], _, _, _ => rfl
  | [], _ :: _, _, _, h => by cases h
  | _ :: _, [], _, _, h => by cases h
  | t :: ts, d :: ds, env, env', h => by
    simp only [asgTs] at h
    split at h
    · rw [List.length_cons, asgTs_len h, List.length_cons]
    · cases h
theorem pg_tp {k : Nat} (hc : X.calm = true) (hp : es.all plainE = true) (hl : es.length = ts.length) (h : PGs X es (tTgs T ts)) : PG X (.Tuple es k pos) (tTg T (.tp ts)) :=
  (pg_tup hc h (assignEach_len es X.env hp).1 (assignEach_len es X.env hp).2).mono fun v σ H Q ⟨F, ρ, env, st, d, env', r, hE, hd, e1, fin⟩ => by
    cases d with
    | tup k ds =>
      obtain ⟨a, vs, rfl, h1, h2⟩ := hd
      simp only [asgT] at e1
      exact ⟨a, vs, rfl, h1.sq r.sub, by rw [h2.length, asgTs_len e1, hl], F, ρ, env, st, ds, env', r, hE, h2, e1, fun σ2 hE2 ow => fin σ2 hE2 fun vs h => ow vs (by simpa [tgIn] using h)⟩
    | _ => cases e1
end
/-! ### what is walked -/
def ItOk (T : List Addr) (F : Hp) (ρ : List Addr) (it : Itr) (J : It) : Prop := ∀ (i : Nat) (F' : Hp) (ρ' : List Addr) (st : St) (H : Hp), Le F F' → (∃ more, ρ' = ρ ++ more) → Rl T F' ρ' st H →
  match nxt it st i with
  | .item d => J.go i H ∧ ∀ x H', J.yld i H x H' → ∃ F'', Step T F' ρ' H F'' ρ' H' ∧ Rl T F'' ρ' st H' ∧ RD F'' d x
  | .stop => J.stop i H
  | .bad => True
def tIv (T : List Addr) (f : Env → St → Option (Itr × St)) : TI := fun σ H R => ∃ F ρ env st it st', Rl T F ρ st H ∧ RE F ρ env σ ∧ f env st = some (it, st') ∧
  ∀ F' ρ' H' J, Step T F ρ H F' ρ' H' → Rl T F' ρ' st' H' → ItOk T F' ρ' it J → R J H'
/-! ### statements -/
def FinS (T : List Addr) (F : Hp) (ρ : List Addr) (st : St) (fl : Fl) (env : Env) (H : Hp) (D : Ends) : Prop := ∀ F' ρ' H', Step T F ρ H F' ρ' H' → Rl T F' ρ' st H' → match fl with
  | .nx => ∀ σ', RE F' ρ' env σ' → D.nx σ' H'
  | .brk => ∀ σ', RE F' ρ' env σ' → D.bk σ' H'
  | .cont => ∀ σ', RE F' ρ' env σ' → D.ct σ' H'
  | .ret x => ∀ v, RD F' x v → D.rt v H'
def tSx (T : List Addr) (f : Env → St → Rx) : TS := fun D σ H => ∃ F ρ env st fl env' st', Rl T F ρ st H ∧ RE F ρ env σ ∧ f env st = some (fl, env', st') ∧ FinS T F ρ st' fl env' H D
theorem FinS.step {T : List Addr} {F F' : Hp} {ρ ρ' : List Addr} {st : St} {fl : Fl} {env : Env} {H H' : Hp} {D : Ends} (h : FinS T F ρ st fl env H D) (s : Step T F ρ H F' ρ' H') : FinS T F' ρ' st fl env H' D := fun F2 ρ2 H2 s2 r2 => h F2 ρ2 H2 (s.trans s2) r2
section
variable {X : Cx} {T : List Addr} {cl : Calls} {pos : Pos} {a b c d e : Expr} {a' b' c' d' e' : E}
theorem pss_0 : PSs X [] (tSx T (exs cl [])) := pss_nil.mono fun D σ H ⟨F, ρ, env, st, fl, env', st', r, hE, e1, fin⟩ => by
  cases e1
  exact fin F ρ H Step.refl r σ hE
theorem pss_1 {s : Stmt} {ss : List Stmt} {s' : S} {ss' : List S} (h1 : PS X s (tSx T (ex cl s'))) (h2 : PSs X ss (tSx T (exs cl ss'))) : PSs X (s :: ss) (tSx T (exs cl (s' :: ss'))) :=
  (pss_cons h1 h2).mono fun D σ H ⟨F, ρ, env, st, fl, env', st', r, hE, e1, fin⟩ => by
    simp only [exs] at e1
    split at e1
    · rename_i env1 st1 h3
      refine ⟨F, ρ, env, st, .nx, env1, st1, r, hE, h3, fun F1 ρ1 H1 s1 r1 σ1 hE1 => ?_⟩
      exact ⟨F1, ρ1, env1, st1, fl, env', st', r1, hE1, e1, fin.step s1⟩
    · rename_i h3
      refine ⟨F, ρ, env, st, fl, env', st', r, hE, e1, ?_⟩
      cases fl with
      | nx => exact absurd e1 (h3 env' st')
      | _ => exact fin
theorem ps_ret' (ha : PE X e (tEv T (ev cl e'))) : PS X (.Return (some e) pos) (tSx T (ex cl (.ret e'))) := (ps_ret ha).mono fun D σ H ⟨F, ρ, env, st, fl, env', st', r, hE, e1, fin⟩ => by
  simp only [ex] at e1
  split at e1
  · split at e1
    · rename_i w st1 h1 _ x st2 h2
      cases e1
      refine ⟨F, ρ, env, st, w, st1, r, hE, h1, fun F1 ρ1 H1 v s1 r1 w1 => ?_⟩
      obtain ⟨F2, s2, r2, w2⟩ := freeze_ok r1 w1 h2
      exact fin F2 ρ1 H1 (s1.trans s2) r2 v w2
    · cases e1
  · cases e1
theorem ps_retN' : PS X (.Return none pos) (tSx T (ex cl (.ret (.lit .non)))) := ps_retN.mono fun D σ H ⟨F, ρ, env, st, fl, env', st', r, hE, e1, fin⟩ => by
  cases e1
  exact fin F ρ H Step.refl r .non rfl
theorem ps_if' {ta tb : List Stmt} {ta' tb' : List S} (hc : PT X c (tTv T (ev cl c'))) (ha : PSs X ta (tSx T (exs cl ta'))) (hb : PSs X tb (tSx T (exs cl tb'))) : PS X (.If c ta tb pos) (tSx T (ex cl (.ifs c' ta' tb'))) :=
  (ps_if hc ha hb).mono fun D σ H ⟨F, ρ, env, st, fl, env', st', r, hE, e1, fin⟩ => by
    simp only [ex] at e1
    split at e1
    · rename_i st1 h1
      refine ⟨F, ρ, env, st, true, st1, r, hE, h1, fun F1 ρ1 H1 s1 r1 => ?_⟩
      exact ⟨F1, ρ1, env, st1, fl, env', st', r1, hE.step s1, e1, fin.step s1⟩
    · rename_i st1 h1
      refine ⟨F, ρ, env, st, false, st1, r, hE, h1, fun F1 ρ1 H1 s1 r1 => ?_⟩
      exact ⟨F1, ρ1, env, st1, fl, env', st', r1, hE.step s1, e1, fin.step s1⟩
    · cases e1
theorem ps_pass' : PS X (.Pass pos) (tSx T (ex cl .pass)) := ps_pass.mono fun D σ H ⟨F, ρ, env, st, fl, env', st', r, hE, e1, fin⟩ => by
  cases e1
  exact fin F ρ H Step.refl r σ hE
theorem ps_brk' : PS X (.Break pos) (tSx T (ex cl .brk)) := ps_break.mono fun D σ H ⟨F, ρ, env, st, fl, env', st', r, hE, e1, fin⟩ => by
  cases e1
  exact fin F ρ H Step.refl r σ hE
theorem ps_cont' : PS X (.Continue pos) (tSx T (ex cl .cont)) := ps_continue.mono fun D σ H ⟨F, ρ, env, st, fl, env', st', r, hE, e1, fin⟩ => by
  cases e1
  exact fin F ρ H Step.refl r σ hE
/-- a value dropped -/
def callE : Expr → Bool
  | .Call .. => true
  | _ => false
theorem ps_ex' (hc : callE e = true) (ha : PE X e (tEv T (ev cl e'))) : PS X (.Expr e pos) (tSx T (ex cl (.ex e'))) := (ps_expr ha (by cases e <;> first | rfl | cases hc)).mono fun D σ H ⟨F, ρ, env, st, fl, env', st', r, hE, e1, fin⟩ => by
  simp only [ex] at e1
  split at e1
  · rename_i w st1 h1
    cases e1
    exact ⟨F, ρ, env, st, w, _, r, hE, h1, fun F1 ρ1 H1 v s1 r1 w1 => fin F1 ρ1 H1 s1 r1 σ (hE.step s1)⟩
  · cases e1
/-- name = e -/
theorem asg_step {i : Nat} {D : Ends} {σ : L2.St} {H : Hp} (h : tSx T (ex cl (.asg (.nm i) e')) D σ H) : tEv T (ev cl e') σ H (fun x H1 => gName i x σ H1 D.nx) := by
  obtain ⟨F, ρ, env, st, fl, env', st', r, hE, e1, fin⟩ := h
  simp only [ex] at e1
  split at e1
  · rename_i w st1 h1
    cases e1
    exact ⟨F, ρ, env, st, w, _, r, hE, h1, fun F1 ρ1 H1 v s1 r1 w1 => fin F1 ρ1 H1 s1 r1 _ ((hE.step s1).set w1)⟩
  · cases e1
theorem ps_nm' {i : Nat} {x : Str} {p : Pos} (hN : X.N.Nodup) (hi : X.N[i]? = some x) (hx : Loc X.env.scope x) (hf : X.fn x = true ∨ X.env.scope.names.lookup x = some .local) (hs : swapsWith e (some (.Name x p)) pos.line X.env = pure false) (ha : PE X e (tEv T (ev cl e'))) :
    PS X (.Assign [.Name x p] e pos) (tSx T (ex cl (.asg (.nm i) e'))) := (ps_set hN hi hx ha hs hf).mono fun D σ H h => asg_step h
/-- (a, b) = e -/
theorem ps_tp' {tg : Expr} {ts : List Rf.T} (hg : PG X tg (tTg T (.tp ts))) (hs : swapsWithSole [tg] e pos.line X.env = pure false) (hw : swappedStores [tg] e X.env = pure none) (h1 : (assignEach [tg] X.env).map (·.2) = [assign tg X.env]) (ha : PE X e (tEv T (ev cl e'))) :
    PS X (.Assign [tg] e pos) (tSx T (ex cl (.asg (.tp ts) e'))) := (ps_asg ha hg hs hw h1).mono fun D σ H ⟨F, ρ, env, st, fl, env', st', r, hE, e1, fin⟩ => by
  simp only [ex] at e1
  split at e1
  · split at e1
    · rename_i w st1 h1 _ d h2
      split at e1
      · rename_i env1 h3
        cases e1
        refine ⟨F, ρ, env, st, w, _, r, hE, h1, fun F1 ρ1 H1 v s1 r1 w1 => ?_⟩
        have hd := view_ok r1 w1 h2
        cases d with
        | tup k ds => exact ⟨F1, ρ1, env, _, _, _, r1, hE.step s1, (hd : RD F1 (.tup k ds) v), h3, fun σ' hE' _ => fin F1 ρ1 H1 s1 r1 σ' hE'⟩
        | _ => cases h3
      · cases e1
    · cases e1
  · cases e1
/-- a, b = x, y of local names -/
theorem ps_par2' {i j : Nat} {x y : Str} {px py pt : Pos} {kt k2 pt2} (hc : X.calm = true) (hN : X.N.Nodup) (hi : X.N[i]? = some x) (hj : X.N[j]? = some y) (hij : i ≠ j)
    (hx : X.env.scope.names.lookup x = some .local) (hy : X.env.scope.names.lookup y = some .local) (ha : PA X [a, b] (tWs T (evW cl [a', b'])))
    (hw : swappedStores [.Tuple [.Name x px, .Name y py] kt pt] (.Tuple [a, b] k2 pt2) X.env = pure (some [x, y])) :
    PS X (.Assign [.Tuple [.Name x px, .Name y py] kt pt] (.Tuple [a, b] k2 pt2) pos) (tSx T (ex cl (.par [i, j] [a', b']))) := (ps_par hc hN hi hj hij hx hy ha hw).mono fun D σ H ⟨F, ρ, env, st, fl, env', st', r, hE, e1, fin⟩ => by
  simp only [ex] at e1
  split at e1
  · rename_i ws st1 h1
    split at e1
    · rename_i h2
      cases e1
      refine ⟨F, ρ, env, st, ws, _, r, hE, h1, fun F1 ρ1 H1 vs s1 r1 w1 => ?_⟩
      match ws, h2, w1 with
      | [_, _], _, w1 =>
        obtain ⟨v1, t1, rfl, g1, v2, t2, rfl, g2, h⟩ := w1
        cases h
        refine ⟨v1, v2, rfl, fin F1 ρ1 H1 s1 r1 _ ?_⟩
        rw [List.set_comm _ _ hij]
        exact ((hE.step s1).set g2).set g1
      | [], h2, _ => cases h2
      | [_], h2, _ => cases h2
      | _ :: _ :: _ :: _, h2, _ => cases h2
    · cases e1
  · cases e1
theorem ps_par3' {i j l : Nat} {x y z : Str} {px py pz pt : Pos} {kt k2 pt2} (hc : X.calm = true) (hN : X.N.Nodup) (hi : X.N[i]? = some x) (hj : X.N[j]? = some y) (hl : X.N[l]? = some z) (hij : i ≠ j) (hil : i ≠ l) (hjl : j ≠ l)
    (hx : X.env.scope.names.lookup x = some .local) (hy : X.env.scope.names.lookup y = some .local) (hz : X.env.scope.names.lookup z = some .local) (ha : PA X [a, b, c] (tWs T (evW cl [a', b', c'])))
    (hw : swappedStores [.Tuple [.Name x px, .Name y py, .Name z pz] kt pt] (.Tuple [a, b, c] k2 pt2) X.env = pure (some [x, y, z])) :
    PS X (.Assign [.Tuple [.Name x px, .Name y py, .Name z pz] kt pt] (.Tuple [a, b, c] k2 pt2) pos) (tSx T (ex cl (.par [i, j, l] [a', b', c']))) := (ps_par3 hc hN hi hj hl hij hil hjl hx hy hz ha hw).mono fun D σ H ⟨F, ρ, env, st, fl, env', st', r, hE, e1, fin⟩ => by
  simp only [ex] at e1
  split at e1
  · rename_i ws st1 h1
    split at e1
    · rename_i h2
      cases e1
      refine ⟨F, ρ, env, st, ws, _, r, hE, h1, fun F1 ρ1 H1 vs s1 r1 w1 => ?_⟩
      match ws, h2, w1 with
      | [_, _, _], _, w1 =>
        obtain ⟨v1, t1, rfl, g1, v2, t2, rfl, g2, v3, t3, rfl, g3, h⟩ := w1
        cases h
        refine ⟨v1, v2, v3, rfl, fin F1 ρ1 H1 s1 r1 _ ?_⟩
        rw [List.set_comm _ _ hij, List.set_comm _ _ hil, List.set_comm _ _ hjl]
        exact (((hE.step s1).set g3).set g2).set g1
      | [], h2, _ => cases h2
      | [_], h2, _ => cases h2
      | [_, _], h2, _ => cases h2
      | _ :: _ :: _ :: _ :: _, h2, _ => cases h2
    · cases e1
  · cases e1
/-! ### loops -/
theorem stopAt_self (n : Nat) : stopAt n n = .stop := by
  unfold stopAt
  rw [Nat.beq_refl]
theorem stopAt_eq {i n : Nat} {r : Nxt} (h : stopAt i n = r) : (r = .stop ∧ i = n) ∨ r = .bad := by
  unfold stopAt at h
  cases e : Nat.beq i n with
  | true => rw [e] at h; exact .inl ⟨h.symm, Nat.eq_of_beq_eq_true e⟩
  | false => rw [e] at h; exact .inr h.symm
theorem forSeq_live {b : Env → St → Rx} {t : Rf.T} {ds : List D} : ∀ {n i : Nat} {env : Env} {st : St} {r : Fl × Env × St}, ds.length - i = n → i ≤ ds.length → forSeq b t (ds.drop i) env st = some r → forLive b t (.seq ds) (n + 1) i env st = some r := by
  intro n
  induction n with
  | zero =>
    intro i env st r hn hle h
    have ei : i = ds.length := by omega
    have hd : ds.drop i = [] := List.drop_eq_nil_of_le (by omega)
    have hx : nth ds i = none := by rw [nth_eq]; exact List.getElem?_eq_none (by omega)
    rw [hd] at h
    simp only [forLive, nxt, hx]
    rw [ei, stopAt_self]
    exact h
  | succ n ih =>
    intro i env st r hn hle h
    have hi : i < ds.length := by omega
    have hd : ds.drop i = ds[i] :: ds.drop (i + 1) := List.drop_eq_getElem_cons hi
    have hx : nth ds i = some ds[i] := by rw [nth_eq]; exact List.getElem?_eq_getElem hi
    rw [hd] at h
    simp only [forSeq] at h
    rw [forLive]
    simp only [nxt, hx]
    split at h
    · cases h
    · rename_i env1 h1
      split at h
      · rename_i env2 st2 h2
        exact ih (by omega) (by omega) h
      · rename_i env2 st2 h2
        exact ih (by omega) (by omega) h
      · rename_i env2 st2 h2
        exact h
      · rename_i x env2 st2 h2
        exact h
      · cases h
theorem for_core {t : Rf.T} {it : Itr} {J : It} {tb : TS} {bd : Env → St → Rx} {F : Hp} {ρ : List Addr} {env env' : Env} {st st' : St} {fl : Fl} {H : Hp} {D : Ends} {σ : L2.St} {m : Nat}
    (hb : ∀ D σ H, tSx T bd D σ H → tb D σ H) (r : Rl T F ρ st H) (hE : RE F ρ env σ) (hJ : ItOk T F ρ it J) (e1 : forLive bd t it m 0 env st = some (fl, env', st')) (fin : FinS T F ρ st' fl env' H D) :
    ∃ W : Nat → Nat → L2.St → Hp → Prop, (∃ m, W 0 m σ H) ∧ ∀ i m σ H, W i m σ H →
      (J.stop i H ∧ D.nx σ H) ∨ (J.go i H ∧ ∃ N : L2.St → Hp → Prop, (∀ σ' H', N σ' H' → ∃ m', m' < m ∧ W (i + 1) m' σ' H') ∧ ∀ x H', J.yld i H x H' → tTg T t x σ H' fun σ2 H2 => tb { D with nx := N, ct := N, bk := D.nx } σ2 H2) := by
  refine ⟨fun i m σ H1 => ∃ F1 ρ1 env1 st1, Step T F ρ H F1 ρ1 H1 ∧ Rl T F1 ρ1 st1 H1 ∧ RE F1 ρ1 env1 σ ∧ forLive bd t it m i env1 st1 = some (fl, env', st'), ⟨m, F, ρ, env, st, Step.refl, r, hE, e1⟩, ?_⟩
  rintro i m σ1 H1 ⟨F1, ρ1, env1, st1, s1, r1, hE1, e1⟩
  obtain ⟨more, em, _⟩ := s1.grow
  have J1 := hJ i F1 ρ1 st1 H1 s1.le ⟨more, em⟩ r1
  cases m with
  | zero => cases e1
  | succ m =>
    simp only [forLive] at e1
    split at e1
    · cases e1
    · rename_i hx
      rw [hx] at J1
      cases e1
      exact .inl ⟨J1, fin F1 ρ1 H1 s1 r1 σ1 hE1⟩
    · rename_i x hx
      rw [hx] at J1
      refine .inr ⟨J1.1, fun σ2 H2 => ∃ F2 ρ2 env2 st2, Step T F ρ H F2 ρ2 H2 ∧ Rl T F2 ρ2 st2 H2 ∧ RE F2 ρ2 env2 σ2 ∧ forLive bd t it m (i + 1) env2 st2 = some (fl, env', st'), fun σ2 H2 h => ⟨m, Nat.lt_succ_self m, h⟩, fun v H2 hy => ?_⟩
      obtain ⟨F2, s2, r2, hx2⟩ := J1.2 v H2 hy
      split at e1
      · cases e1
      · rename_i env2 h2
        refine ⟨F2, ρ1, env1, st1, x, env2, r2, hE1.step s2, hx2, h2, fun σ3 hE3 _ => hb _ _ _ ?_⟩
        have S := s1.trans s2
        split at e1
        · rename_i env3 st3 h3
          exact ⟨F2, ρ1, env2, st1, .nx, env3, st3, r2, hE3, h3, fun F4 ρ4 H4 s4 r4 σ4 hE4 => ⟨F4, ρ4, env3, st3, S.trans s4, r4, hE4, e1⟩⟩
        · rename_i env3 st3 h3
          exact ⟨F2, ρ1, env2, st1, .cont, env3, st3, r2, hE3, h3, fun F4 ρ4 H4 s4 r4 σ4 hE4 => ⟨F4, ρ4, env3, st3, S.trans s4, r4, hE4, e1⟩⟩
        · rename_i env3 st3 h3
          cases e1
          exact ⟨F2, ρ1, env2, st1, .brk, _, _, r2, hE3, h3, fun F4 ρ4 H4 s4 r4 σ4 hE4 => fin F4 ρ4 H4 (S.trans s4) r4 σ4 hE4⟩
        · rename_i y env3 st3 h3
          cases e1
          exact ⟨F2, ρ1, env2, st1, .ret y, _, _, r2, hE3, h3, fun F4 ρ4 H4 s4 r4 v hv => fin F4 ρ4 H4 (S.trans s4) r4 v hv⟩
        · cases e1
theorem ps_for' {tg iter : Expr} {body : List Stmt} {t : Rf.T} {it' : E} {body' : List S} (hp : PassesOwn (model X.prog X.w) X.A X.env X.xe) (hc : X.calm = true) (hpl : plainE iter = true) (hi : PI X tg iter (tIv T (evF cl it'))) (hg : PG X tg (tTg T t)) (hb : PSs X body (tSx T (exs cl body'))) :
    PS X (.For tg iter body [] pos) (tSx T (ex cl (.for_ t it' body'))) := (ps_for hp hc hi hg hb (fun x => by cases iter <;> first | rfl | cases hpl)).mono fun D σ H ⟨F, ρ, env, st, fl, env', st', r, hE, e1, fin⟩ => by
  simp only [ex] at e1
  split at e1
  · rename_i ds st1 h1
    refine ⟨F, ρ, env, st, .seq ds, st1, r, hE, h1, fun F1 ρ1 H1 J s1 r1 hJ => ?_⟩
    exact for_core (fun _ _ _ h => h) r1 (hE.step s1) hJ (forSeq_live (n := ds.length) (i := 0) (by simp) (Nat.zero_le _) (by simpa using e1)) (fin.step s1)
  · rename_i it st1 hn h1
    refine ⟨F, ρ, env, st, it, _, r, hE, h1, fun F1 ρ1 H1 J s1 r1 hJ => ?_⟩
    exact for_core (fun _ _ _ h => h) r1 (hE.step s1) hJ e1 (fin.step s1)
  · cases e1
theorem ps_while' {body : List Stmt} {body' : List S} (hp : PassesOwn (model X.prog X.w) X.A X.env X.xe) (hc : PT X c (tTv T (ev cl c'))) (hb : PSs X body (tSx T (exs cl body'))) : PS X (.While c body [] pos) (tSx T (ex cl (.while_ c' body'))) :=
  (ps_while hp hc hb).mono fun D σ H ⟨F, ρ, env, st, fl, env', st', r, hE, e1, fin⟩ => by
    simp only [ex] at e1
    refine ⟨fun m σ H1 => ∃ F1 ρ1 env1 st1, Step T F ρ H F1 ρ1 H1 ∧ Rl T F1 ρ1 st1 H1 ∧ RE F1 ρ1 env1 σ ∧ whileN (ev cl c') (exs cl body') m env1 st1 = some (fl, env', st'), ⟨FUEL, F, ρ, env, st, Step.refl, r, hE, e1⟩, ?_⟩
    rintro m σ1 H1 ⟨F1, ρ1, env1, st1, s1, r1, hE1, e1⟩
    cases m with
    | zero => cases e1
    | succ m =>
      simp only [whileN] at e1
      split at e1
      · rename_i st2 h2
        refine ⟨F1, ρ1, env1, st1, true, st2, r1, hE1, h2, fun F2 ρ2 H2 s2 r2 => ?_⟩
        show if true = true then _ else _
        rw [if_pos rfl]
        have S := s1.trans s2
        refine ⟨fun σ2 H2 => ∃ F2 ρ2 env2 st2, Step T F ρ H F2 ρ2 H2 ∧ Rl T F2 ρ2 st2 H2 ∧ RE F2 ρ2 env2 σ2 ∧ whileN (ev cl c') (exs cl body') m env2 st2 = some (fl, env', st'), fun σ2 H2 h => ⟨m, Nat.lt_succ_self m, h⟩, ?_⟩
        split at e1
        · rename_i env3 st3 h3
          exact ⟨F2, ρ2, env1, st2, .nx, env3, st3, r2, hE1.step s2, h3, fun F4 ρ4 H4 s4 r4 σ4 hE4 => ⟨F4, ρ4, env3, st3, S.trans s4, r4, hE4, e1⟩⟩
        · rename_i env3 st3 h3
          exact ⟨F2, ρ2, env1, st2, .cont, env3, st3, r2, hE1.step s2, h3, fun F4 ρ4 H4 s4 r4 σ4 hE4 => ⟨F4, ρ4, env3, st3, S.trans s4, r4, hE4, e1⟩⟩
        · rename_i env3 st3 h3
          cases e1
          exact ⟨F2, ρ2, env1, st2, .brk, _, _, r2, hE1.step s2, h3, fun F4 ρ4 H4 s4 r4 σ4 hE4 => fin F4 ρ4 H4 (S.trans s4) r4 σ4 hE4⟩
        · rename_i y env3 st3 h3
          cases e1
          exact ⟨F2, ρ2, env1, st2, .ret y, _, _, r2, hE1.step s2, h3, fun F4 ρ4 H4 s4 r4 v hv => fin F4 ρ4 H4 (S.trans s4) r4 v hv⟩
        · cases e1
      · rename_i st2 h2
        cases e1
        refine ⟨F1, ρ1, _, st1, false, _, r1, hE1, h2, fun F2 ρ2 H2 s2 r2 => ?_⟩
        show if false = true then _ else _
        rw [if_neg (by decide)]
        exact fin F2 ρ2 H2 (s1.trans s2) r2 σ1 (hE1.step s2)
      · cases e1
end
end Rf
/-! Rf13: items set, methods of lists, dicts made and read. -/
namespace Rf
open PySem PySem.Spec PyProof.Rows L2 PySem.W
/-! ### a tuple known to have no dict -/
section
variable {X : Cx} {T : List Addr} {cl : Calls} {pos : Pos} {a b c d e f : Expr} {a' b' c' d' e' f' : E} {es : List Expr} {es' : List E}
theorem pe_tupF {x1} {t : TA} (h : PA X es t) : PE X (.Tuple es x1 pos) (fun σ H Q => t σ H fun xs H1 => xs.length ≤ sizeLine ∧ ∀ p o, H1 p = none → o.dict = none → Q (.ref p) (upd H1 p (.frz o (.tup xs)))) := by
  refine ⟨fun pins s σ H Q I hq => ?_⟩
  refine wpAny_Tuple_spliced (thn (h.run pos pins s σ H _ I hq) fun us s1 ⟨xs, H1, I1, r, z, q⟩ => ⟨by rw [← r.length]; exact z, ?_⟩)
  have hf : H1 s1.heap.objs.size = none := I1.hok.fresh (Nat.le_refl _)
  refine ⟨.ref s1.heap.objs.size, _, I1.laid (t' := s1.toks) (o := .frz { cls := .type "tuple", data := .seq us.toArray } (.tup xs)) (fun b u e => Heap.get?_push_of_some _ e) (Nat.le_refl _) ?_, rfl, q _ _ hf rfl⟩
  exact ⟨Heap.get?_push_size _ rfl, z, us, r, ⟨_, Heap.get?_push_size _ rfl, rfl, _, rfl⟩⟩
theorem pv_tupF {k : Nat} (ha : PA X es (tDs T (evD cl es'))) (hl : es'.length ≤ 1000) : PE X (.Tuple es k pos) (tEv T (ev cl (.tup true es'))) := (pe_tupF ha).mono fun σ H Q ⟨F, ρ, env, st, w, st', r, hE, e1, fin⟩ => by
  simp only [ev] at e1
  split at e1
  · rename_i ds st1 h1
    cases e1
    refine ⟨F, ρ, env, st, ds, _, r, hE, h1, fun F1 ρ1 H1 vs s1 r1 w1 => ⟨?_, fun p o hp hd => ?_⟩⟩
    · rw [w1.length, evD_length h1, sizeLine_eq]
      omega
    · have fp : F1 p = none := by
        cases q : F1 p with
        | none => rfl
        | some u => rw [r1.sub p u q] at hp; cases hp
      exact (fin.step s1) _ _ _ _ (Step.data r1 hp) (r1.data hp (fun _ z => by cases z)) ⟨p, vs, rfl, ⟨o, upd_same, hd⟩, w1.le (Le.upd fp)⟩
  · cases e1
theorem pv_tupA {k : Nat} {q : Bool} (ha : PA X es (tDs T (evD cl es'))) (hl : es'.length ≤ 1000) : PE X (.Tuple es k pos) (tEv T (ev cl (.tup q es'))) := by
  cases q with
  | false => exact pv_tup ha hl
  | true => exact pv_tupF ha hl
/-! ### items set -/
def rSetA : V → V → V → Hp → (Hp → Prop) → Prop := fun o i v H Q => ∃ F a ob k x ob', o = .ref a ∧ Le F H ∧ F a = none ∧ RO F H a ob ∧ RD F k i ∧ RD F x v ∧ setOb ob k x = some ob' ∧
  ∀ o2, NT o2 → RO F (upd H a o2) a ob' → Q (upd H a o2)
theorem ps_any (hu : X.A.units + 100 < cLine) : PSet X rSetA := by
  intro pins s σ H o i v ov iv u Q I ro ri rv ⟨F, a, ob, k, x, ob', eo, l, fa, hob, hk, hx, e, hQ⟩
  subst eo
  cases ob with
  | lst ds =>
    cases k with
    | int j =>
      cases hk
      obtain ⟨_, b, vs, e1, h2, h3⟩ := hob
      cases e1
      have e : (match Rf.ixN ds.length j with | some m => some (Ob.lst (setL ds m x)) | none => none) = some ob' := e
      cases hj : Rf.ixN ds.length j with
      | none => rw [hj] at e; cases e
      | some m =>
        rw [hj] at e
        cases e
        rw [ixN_eq, ← h3.length] at hj
        exact set_list pins s σ H _ _ v ov iv u Q I ro ri rv ⟨a, vs, j, m, rfl, rfl, h2, hj, hQ _ nt_lst ⟨fa, a, _, rfl, upd_same, h3.setL hx⟩⟩
    | _ => cases e
  | dct ks ws =>
    have e : (match keyOk ks k && lenOk ks with | true => some (Ob.dct (putD k x ks ws).1 (putD k x ks ws).2) | false => none) = some ob' := e
    cases hm : keyOk ks k && lenOk ks with
    | false => rw [hm] at e; cases e
    | true =>
      rw [hm] at e
      cases e
      rw [Bool.and_eq_true] at hm
      obtain ⟨b, e1, κ, inst, E, kk, kvs, mkd, kS, rfl, rfl, h5⟩ := keys_of l hob.2 hm.1 (hk.le l)
      cases e1
      have hl : kvs.length < sizeLine := by
        have h1 := lenOk_le hm.2
        rw [List.length_map] at h1
        have : MAXL < sizeLine := by rw [sizeLine_eq]; decide
        omega
      obtain ⟨H2, I2, g⟩ := dput_any (v := v) kS hl I
      obtain ⟨o, ho, mk⟩ := kS.ho
      cases ro
      have pv := putD_val E hx h5 (ks' := (putD (E.enc kk) x (kvs.map fun p => E.enc p.1) ws).1) (ds' := (putD (E.enc kk) x (kvs.map fun p => E.enc p.1) ws).2) rfl
      refine d_setItem (by omega) I2 g ri rv fun s' I' => ⟨_, I', hQ _ ?_ ?_⟩
      · cases kS with
        | k _ _ _ _ => exact nt_dK
        | t _ _ _ _ _ _ => exact nt_dT
      · refine ⟨fa, ?_⟩
        rw [pv.1]
        refine mk F _ _ _ ?_ upd_same pv.2
        unfold putK
        split
        · rename_i q
          intro z
          have : kvs = [] := List.map_eq_nil_iff.mp z
          rw [this] at q
          cases q
        · exact fun z => by simp at z
  | dead => cases e
theorem ps_setI' {p : Pos} {x : Str} {i : Nat} (hu : X.A.units + 100 < cLine) (hs : swapsWithSole [.Subscript (.Name x p) a pos] e pos.line X.env = pure false) (hsp : ∀ v, assign (.Subscript (.Name x p) a pos) X.env v = (do
      let ov ← holding [v] (eval (.Name x p) X.env)
      let iv ← holding [v, ov] (eval a X.env)
      standAt pos
      holding [v, ov, iv] (setItem ov iv v)
      release [v, ov, iv] [])) (hN : X.N[i]? = some x) (hv : Vis X.env.scope x) (hn : okName x = true) (ha : PE X a (tEv T (ev cl a'))) (he : PE X e (tEv T (ev cl e'))) {spos : Pos} (hs2 : swapsWithSole [.Subscript (.Name x p) a pos] e spos.line X.env = pure false)
    (hw : swappedStores [.Subscript (.Name x p) a pos] e X.env = pure none) :
    PS X (.Assign [.Subscript (.Name x p) a pos] e spos) (tSx T (ex cl (.setI i a' e'))) :=
  (ps_asg he (pg_sub (pv_var (cl := cl) (T := T) hN hv hn) ha (ps_any hu) hsp) hs2 hw rfl).mono fun D σ H ⟨F, ρ, env, st, fl, env', st', r, hE, e1, fin⟩ => by
    simp only [ex] at e1
    split at e1
    · rename_i w st1 h1
      split at e1
      · rename_i n h2
        split at e1
        · rename_i k st2 h3
          split at e1
          · rename_i y st3 h4
            split at e1
            · rename_i ob h5
              cases e1
              refine ⟨F, ρ, env, st, w, st1, r, hE, h1, fun F1 ρ1 H1 v s1 r1 w1 => ?_⟩
              have hv1 : ev cl (.var i) env st1 = some (.ref n, st1) := by simp only [ev]; rw [h2]
              refine ⟨F1, ρ1, env, st1, .ref n, st1, r1, hE.step s1, hv1, fun F2 ρ2 H2 o s2 r2 w2 => ?_⟩
              refine ⟨F2, ρ2, env, st1, .d k, st2, r2, (hE.step s1).step s2, h3, fun F3 ρ3 H3 iv s3 r3 w3 => ?_⟩
              obtain ⟨F4, s4, r4, w4⟩ := freeze_ok r3 ((w1.step s2).step s3) h4
              obtain ⟨pa, hpa, eo⟩ := (w2.step s3).step s4
              have q := r4.look hpa
              have S := ((s1.trans s2).trans s3).trans s4
              have live : F4 pa = none := by
                cases hg : getO st3 n with
                | lst ds => rw [hg] at q; exact q.1
                | dct ks vs => rw [hg] at q; exact q.1
                | dead => rw [hg] at h5; cases h5
              obtain ⟨o0, ho0, _⟩ := r4.has pa (List.mem_of_getElem? hpa)
              refine ⟨F4, pa, getO st3 n, k, y, ob, eo, r4.sub, live, q, RD.le s4.le w3, w4, h5, fun o2 hnt hro => ?_⟩
              obtain ⟨r5, s5⟩ := r4.write hpa live ho0 hnt hro
              exact fin F4 ρ3 _ (S.trans s5) r5 σ ((((hE.step s1).step s2).step s3).step (s4.trans s5))
            · cases e1
          · cases e1
        · cases e1
      · cases e1
    · cases e1
/-! ### x op= y -/
def rAugA (op : BOp) : V → V → Hp → VK → Prop := fun x y H Q => ∃ F p q r, Le F H ∧ RD F p x ∧ RD F q y ∧ augD op p q = some r ∧ ∀ v, RD F r v → Q v H
theorem ip_any {o : Operator} {op : BOp} (ho : bopOf o = some op) : PIp X o (rAugA op) := by
  intro pins s σ H x y v u Q I rx ry ⟨F, p, q, r, l, hp, hq, e, hQ⟩
  cases o <;> first | (cases ho; done) | cases ho
  · cases p with
    | int i =>
      cases q with
      | int j =>
        cases e; cases hp; cases hq
        exact ip_add pins s σ H _ _ v u Q I rx ry ⟨i, j, rfl, rfl, hQ _ rfl⟩
      | _ => cases e
    | str a =>
      cases q with
      | str b =>
        have e : (match lenOk (a ++ b) with | true => some (D.str (a ++ b)) | false => none) = some r := e
        cases hl : lenOk (a ++ b) with
        | false => rw [hl] at e; cases e
        | true =>
          rw [hl] at e
          cases e; cases hp; cases hq
          have h1 := lenOk_le hl
          have h2 := line_MAXL
          rw [List.length_append] at h1
          obtain ⟨t, rfl⟩ := rx
          obtain ⟨t', rfl⟩ := ry
          refine SB.iadd (fun t2 k => ⟨.str ((⟨a.toArray⟩ : Str) ++ ⟨b.toArray⟩), H, I.kept (t' := k) fun b o e => e, ⟨t2, rfl⟩, ?_⟩) ?_
          · have e2 : (⟨a.toArray⟩ : Str) ++ ⟨b.toArray⟩ = ⟨(a ++ b).toArray⟩ := by
              show (⟨a.toArray ++ b.toArray⟩ : Str) = _
              simp
            rw [e2]
            exact hQ _ rfl
          · rw [strlen, strlen]
            omega
      | _ => cases e
    | _ => cases e
  · cases p with
    | int i =>
      cases q with
      | int j =>
        cases e; cases hp; cases hq
        exact ip_sub pins s σ H _ _ v u Q I rx ry ⟨i, j, rfl, rfl, hQ _ rfl⟩
      | _ => cases e
    | _ => cases e
  all_goals cases e
theorem ps_aug' {i : Nat} {x : Str} {p : Pos} {o : Operator} {op : BOp} (ho : bopOf o = some op) (hN : X.N.Nodup) (hi : X.N[i]? = some x) (hx : Loc X.env.scope x) (hf : X.fn x = true ∨ X.env.scope.names.lookup x = some .local) (he : PE X e (tEv T (ev cl e'))) :
    PS X (.AugAssign (.Name x p) o e pos) (tSx T (ex cl (.aug op i e'))) := (ps_aug hN hi hx he (ip_any ho) hf).mono fun D σ H ⟨F, ρ, env, st, fl, env', st', r, hE, e1, fin⟩ => by
  simp only [ex] at e1
  split at e1
  · rename_i x0 h0
    split at e1
    · rename_i y st1 h1
      split at e1
      · rename_i z h2
        cases e1
        obtain ⟨v, hv, hw⟩ := hE.get h0 nu_d
        refine ⟨v, hv, F, ρ, env, st, _, _, r, hE, h1, fun F1 ρ1 H1 u s1 r1 w1 => ?_⟩
        exact ⟨F1, x0, y, z, r1.sub, RD.le s1.le hw, w1, h2, fun w hw2 => fin F1 ρ1 H1 s1 r1 _ ((hE.step s1).set (w := .d z) hw2)⟩
      · cases e1
    · cases e1
  · cases e1
end
end Rf
/-! Rf14: o[i] op= y, methods of lists, dicts made and read. -/
namespace Rf
open PySem PySem.Spec PyProof.Rows L2 PySem.W
section
variable {T : List Addr} {F F' : Hp} {ρ ρ' : List Addr} {st st' : St} {H H' : Hp} {w : W} {Q : VK} {v : V}
theorem Rl.none_of (r : Rl T F ρ st H) {p : Addr} (hp : H p = none) : F p = none ∧ p ∉ T ∧ p ∉ ρ := by
  refine ⟨?_, fun z => ?_, fun z => ?_⟩
  · cases q : F p with
    | none => rfl
    | some u => rw [r.sub p u q] at hp; cases hp
  · obtain ⟨ps, e, _⟩ := r.tab p z
    rw [hp] at e; cases e
  · obtain ⟨o, e, _⟩ := r.has p z
    rw [hp] at e; cases e
/-- an object of no concern -/
theorem Rl.other {p : Addr} {o : HO} (r : Rl T F ρ st H) (fp : F p = none) (pT : p ∉ T) (pr : p ∉ ρ) : Rl T F ρ st (upd H p o) := by
  have ne : ∀ a u, F a = some u → a ≠ p := fun a u e z => by rw [z, fp] at e; cases e
  refine ⟨fun a u e => by rw [upd_ne (ne a u e)]; exact r.sub a u e, r.nT, fun a z => ?_, r.len, r.nd, r.nTr, fun a z => ?_, fun i a ob h1 h2 => ?_⟩
  · obtain ⟨ps, e, k⟩ := r.tab a z
    exact ⟨ps, by rw [upd_ne (fun q => pT (by rw [← q]; exact z))]; exact e, k⟩
  · obtain ⟨u, e, nt⟩ := r.has a z
    exact ⟨u, by rw [upd_ne (fun q => pr (by rw [← q]; exact z))]; exact e, nt⟩
  · have q := r.obs i a ob h1 h2
    have na : a ≠ p := fun z => pr (by rw [← z]; exact List.mem_of_getElem? h1)
    cases ob with
    | lst ds =>
      obtain ⟨k1, b, vs, e1, k2, k3⟩ := q
      cases e1
      exact ⟨k1, a, vs, rfl, by rw [upd_ne na]; exact k2, k3⟩
    | dct ks ws =>
      obtain ⟨k1, b, vs, e1, k2, k3⟩ := q
      cases e1
      refine ⟨k1, a, vs, rfl, k2, ?_⟩
      rw [upd_ne na]
      exact k3
    | dead => trivial
theorem Step.seal {p : Addr} {o o' : HO} (hp : H p = none) (s : Step T F ρ (upd H p o) F' ρ' H') : Step T F ρ H F' ρ' (upd H' p o') := by
  refine ⟨s.le, fun a u e => ?_, ?_, fun a u e hT hr => ?_, fun a u e => ?_⟩
  · rcases s.new a u e with k | k | k
    · exact .inl k
    · by_cases q : a = p
      · rw [q, upd_same] at k; cases k
      · rw [upd_ne q] at k; exact .inr (.inl k)
    · exact .inr (.inr k)
  · obtain ⟨m, e, n⟩ := s.grow
    refine ⟨m, e, fun a z => ?_⟩
    have k := n a z
    by_cases q : a = p
    · rw [q, upd_same] at k; cases k
    · rw [upd_ne q] at k; exact k
  · have na := ne_of_none e hp
    rw [upd_ne na]
    exact s.pres a u (by rw [upd_ne na]; exact e) hT hr
  · have na := ne_of_none e hp
    obtain ⟨o2, e2⟩ := s.dom a u (by rw [upd_ne na]; exact e)
    exact ⟨o2, by rw [upd_ne na]; exact e2⟩
/-- .. it is still there, and no one's -/
theorem Step.apart {p : Addr} {o : HO} (r : Rl T F ρ st H) (hp : H p = none) (s : Step T F ρ (upd H p o) F' ρ' H') : F' p = none ∧ p ∉ ρ' ∧ H' p = some o := by
  obtain ⟨fp, pT, pr⟩ := r.none_of hp
  refine ⟨?_, fun z => ?_, s.pres p o upd_same pT pr⟩
  · cases q : F' p with
    | none => rfl
    | some u =>
      rcases s.new p u q with k | k | k
      · rw [fp] at k; cases k
      · rw [upd_same] at k; cases k
      · exact absurd k pr
  · obtain ⟨m, e, n⟩ := s.grow
    rw [e] at z
    rcases List.mem_append.mp z with z | z
    · exact pr z
    · have k := n p z
      rw [upd_same] at k; cases k
/-- a new object, behind what ran while it was being made: of the store, or data -/
theorem Fin.made {p : Addr} {o o' : HO} {ob : Ob} {box : Bool} {F2 : Hp} {ρ2 : List Addr} {st2 : St} {H2 : Hp} (fin : Fin T F ρ st' w H Q) (r : Rl T F ρ st H) (hp : H p = none) (s : Step T F ρ (upd H p o) F2 ρ2 H2) (r2 : Rl T F2 ρ2 st2 H2)
    (nt : NT o') (ro : RO F2 (upd H2 p o') p ob) (e : putOb box st2 ob = some (w, st')) : Q (.ref p) (upd H2 p o') := by
  obtain ⟨f2, pr2, _⟩ := Step.apart r hp s
  obtain ⟨_, pT, _⟩ := r.none_of hp
  have S : Step T F ρ H F2 ρ2 (upd H2 p o') := Step.seal hp s
  have R := r2.other (o := o') f2 pT pr2
  have ra := R.add upd_same nt pT pr2 ro
  have sa : Step T F ρ H F2 (ρ2 ++ [p]) (upd H2 p o') := by
    obtain ⟨m, e, n⟩ := S.grow
    refine ⟨S.le, S.new, ⟨m ++ [p], by rw [e, List.append_assoc], fun a z => ?_⟩, S.pres, S.dom⟩
    rcases List.mem_append.mp z with z | z
    · exact n a z
    · have q : a = p := by simpa using z
      rw [q]; exact hp
  have hl : (ρ2 ++ [p])[st2.length]? = some p := by rw [← r2.len]; simp
  cases box with
  | true =>
    cases e
    exact fin F2 (ρ2 ++ [p]) _ _ sa ra ⟨p, hl, rfl⟩
  | false =>
    have fr : ∀ d, freeze (st2 ++ [ob]) (.ref st2.length) = some (d, setO (st2 ++ [ob]) st2.length .dead) → w = .d d → st' = st2 → Q (.ref p) (upd H2 p o') := fun d hf ew es => by
      subst ew es
      obtain ⟨F3, s3, r3, w3⟩ := freeze_ok (v := .ref p) (w := .ref st'.length) ra ⟨p, hl, rfl⟩ hf
      have s4 := sa.trans s3
      obtain ⟨m, e, n⟩ := S.grow
      refine fin F3 ρ2 _ _ ⟨s4.le, s4.new, ⟨m, e, n⟩, s4.pres, s4.dom⟩ ⟨r3.sub, r3.nT, r3.tab, R.len, R.nd, R.nTr, R.has, fun i a ob' h1 h2 => ?_⟩ w3
      have hi : i < ρ2.length := (List.getElem?_eq_some_iff.mp h1).1
      refine r3.obs i a ob' (by rw [List.getElem?_append_left hi]; exact h1) ?_
      rw [setO_eq, List.getElem?_set_ne (by rw [← r2.len]; omega), List.getElem?_append_left (by rw [← r2.len]; exact hi)]
      exact h2
    have hg : getO (st2 ++ [ob]) st2.length = ob := by rw [getO_eq]; simp
    cases ob with
    | lst ds =>
      cases e
      exact fr (.lst ds) (by simp only [freeze, hg]) rfl rfl
    | dct ks vs =>
      cases e
      exact fr (.dct ks vs) (by simp only [freeze, hg]) rfl rfl
    | dead => cases e
end
section
variable {X : Cx} {T : List Addr} {cl : Calls} {pos : Pos} {a b c d e f : Expr} {a' b' c' d' e' f' : E} {es : List Expr} {es' : List E}
/-! ### o[i] op= y -/
def rGetA : V → V → Hp → VK → Prop := fun o i H Q => ∃ F a ob k d, o = .ref a ∧ Le F H ∧ RO F H a ob ∧ RD F k i ∧ getOb ob k = some d ∧ ∀ v, RD F d v → Q v H
theorem pget_any (hu : X.A.units + 100 < cLine) : PGet X rGetA := by
  intro pins s σ H o i ov iv Q I ro ri ⟨F, a, ob, k, d, eo, l, hob, hk, e, hQ⟩
  subst eo
  cases ob with
  | lst ds =>
    cases k with
    | int j =>
      cases hk
      obtain ⟨_, b, vs, e1, h2, h3⟩ := hob
      cases e1
      obtain ⟨w, h4, h5⟩ := atD_ok h3 e
      cases ro
      obtain ⟨t, rfl⟩ := ri
      obtain ⟨its, r, pl, hz⟩ := I.list (SqL.of h2)
      obtain ⟨m, g1, g2, g3, g4, g5⟩ := atI_get h4
      obtain ⟨u, eu, ru⟩ := r.get g2
      have hl := r.length
      have hn := line63
      by_cases h0 : 0 ≤ j
      · have hj : j.toNat = m := by
          rw [seqIndex_of h0 g5] at g1
          exact Option.some.inj g1
        exact wpAny_getItem_list pl.isList h0 (by omega) (by rw [hj]; simpa using eu) ⟨w, H, I, ru, hQ w h5⟩
      · have hj : (j + (its.toArray.size : Int)).toNat = m := by
          rw [seqIndex_neg (by omega) g4] at g1
          rw [List.size_toArray, ← hl]
          exact Option.some.inj g1
        exact wpAny_getItem_list_neg pl.isList (by omega) (by rw [List.size_toArray] <;> omega) (by omega) (by rw [hj]; simpa using eu) ⟨w, H, I, ru, hQ w h5⟩
    | _ => cases e
  | dct ks ws =>
    have e : (match keyOk ks k with | true => lookD k ks ws | false => none) = some d := e
    cases hm : keyOk ks k with
    | false => rw [hm] at e; cases e
    | true =>
      rw [hm] at e
      obtain ⟨b, e1, κ, inst, E, kk, kvs, mkd, kS, rfl, rfl, h5⟩ := keys_of l hob.2 hm (hk.le l)
      cases e1
      obtain ⟨H2, I2, g, bk⟩ := dget_any kS I
      have lv := lookD_val E kk h5
      have e : lookD (E.enc kk) (kvs.map fun p => E.enc p.1) ws = some d := e
      rw [e] at lv
      obtain ⟨w, h6, h7⟩ := lv
      rw [h6] at g
      cases ro
      exact d_getItem (by omega) I2 g ri fun w' s' I' rw' => ⟨w, H, bk s' I', rw', hQ w h7⟩
  | dead => cases e
end
end Rf
/-! Rf15: o[i] op= y, methods of lists, dicts made and read. -/
namespace Rf
open PySem PySem.Spec PyProof.Rows L2 PySem.W
/-- a receiver of a method: no call of a name without arguments (super) -/
def baseE : Expr → Bool
  | .Call .. => false
  | _ => true
theorem base_of {o : Expr} (h : baseE o = true) (m : Str) (env : PySem.Env) : attributeBase o m env (eval o env) = eval o env := by
  cases o <;> first | rfl | cases h
section
variable {X : Cx} {T : List Addr} {cl : Calls} {pos : Pos} {a b c d e f : Expr} {a' b' c' d' e' f' : E} {es : List Expr} {es' : List E} {x : Str} {i : Nat} {p apos cpos : Pos}
theorem ps_augI' {o : Operator} {op : BOp} {tpos : Pos} (hu : X.A.units + 100 < cLine) (ho : bopOf o = some op) (hp : plainE a = true) (hN : X.N[i]? = some x) (hv : Vis X.env.scope x) (hn : okName x = true) (ha : PE X a (tEv T (ev cl a'))) (he : PE X e (tEv T (ev cl e'))) :
    PS X (.AugAssign (.Subscript (.Name x p) a tpos) o e pos) (tSx T (ex cl (.augI op i a' e'))) :=
  (ps_augS (pv_var (cl := cl) (T := T) hN hv hn) ha (pget_any hu) he (ip_any ho) (ps_any hu) (fun ov iv new => by cases a <;> first | rfl | cases hp)).mono fun D σ H ⟨F, ρ, env, st, fl, env', st', r, hE, e1, fin⟩ => by
    simp only [ex] at e1
    split at e1
    · rename_i n h2
      split at e1
      · rename_i k st1 h3
        split at e1
        · rename_i old h4
          split at e1
          · rename_i y st2 h5
            split at e1
            · rename_i z h6
              split at e1
              · rename_i ob h7
                cases e1
                have hv1 : ev cl (.var i) env st = some (.ref n, st) := by simp only [ev]; rw [h2]
                refine ⟨F, ρ, env, st, .ref n, st, r, hE, hv1, fun F1 ρ1 H1 o s1 r1 w1 => ?_⟩
                refine ⟨F1, ρ1, env, st, .d k, st1, r1, hE.step s1, h3, fun F2 ρ2 H2 iv s2 r2 w2 => ?_⟩
                obtain ⟨pa, hpa, eo⟩ := w1.step s2
                have q := r2.look hpa
                have live : F2 pa = none := by
                  cases hg : getO st1 n with
                  | lst ds => rw [hg] at q; exact q.1
                  | dct ks vs => rw [hg] at q; exact q.1
                  | dead => rw [hg] at h4; cases h4
                refine ⟨F2, pa, getO st1 n, k, old, eo, r2.sub, q, w2, h4, fun v0 hv0 => ?_⟩
                refine ⟨F2, ρ2, env, st1, .d y, st2, r2, (hE.step s1).step s2, h5, fun F3 ρ3 H3 yv s3 r3 w3 => ?_⟩
                refine ⟨F3, old, y, z, r3.sub, RD.le s3.le hv0, w3, h6, fun zv hzv => ?_⟩
                obtain ⟨pa', hpa', eo'⟩ := RW.step (w := .ref n) s3 ⟨pa, hpa, eo⟩
                have q3 := r3.look hpa'
                have live3 : F3 pa' = none := by
                  cases hg : getO st2 n with
                  | lst ds => rw [hg] at q3; exact q3.1
                  | dct ks vs => rw [hg] at q3; exact q3.1
                  | dead => rw [hg] at h7; cases h7
                obtain ⟨o0, ho0, _⟩ := r3.has pa' (List.mem_of_getElem? hpa')
                refine ⟨F3, pa', getO st2 n, k, z, ob, eo', r3.sub, live3, q3, RD.le s3.le w2, hzv, h7, fun o2 hnt hro => ?_⟩
                obtain ⟨r5, s5⟩ := r3.write hpa' live3 ho0 hnt hro
                exact fin F3 ρ3 _ (((s1.trans s2).trans s3).trans s5) r5 σ (((hE.step s1).step s2).step (s3.trans s5))
              · cases e1
            · cases e1
          · cases e1
        · cases e1
      · cases e1
    · cases e1
/-! ### methods of lists -/
theorem few1 (hp : plainE e = true) (env : PySem.Env) : ((backTo cpos (starEach [e] env)).all (fun x => !x.1) && (backToKw cpos (keywordEach [] env)).all (fun x => x.1.isSome)
      && decide (([e] : List Expr).length + ([] : List Keyword).length + (if ([] : List Keyword).isEmpty then 0 else 1) < 30)) = true := by
  rw [starEach_plain hp]
  rfl
theorem pa_1 {t : TE} (hp : plainE e = true) (ha : PE X e t) : PA X [e] (tCons t tNil) := pa_cons ha pa_nil (starEach_plain hp [] X.env)
theorem isLst_of {o : Ob} (h : isLst o = true) : ∃ ds, o = .lst ds := by
  cases o with
  | lst ds => exact ⟨ds, rfl⟩
  | _ => cases h
theorem list_at {F H : Hp} {ρ : List Addr} {st : St} {n : Nat} {o : V} (r : Rl T F ρ st H) (w : RW F ρ (.ref n) o) (h : isLst (getO st n) = true) : tyV X.K "list" o H := by
  obtain ⟨ds, hd⟩ := isLst_of h
  obtain ⟨pa, hpa, rfl⟩ := w
  have q := r.look hpa
  rw [hd] at q
  obtain ⟨_, b, vs, e2, k2, k3⟩ := q
  cases e2
  exact .inl ⟨rfl, vs, SqL.of k2⟩
theorem pv_push (hl : (apos.endLine == cpos.line) = true) (hp : plainE e = true) (hN : X.N[i]? = some x) (hv : Vis X.env.scope x) (hn : okName x = true) (he : PE X e (tEv T (ev cl e'))) :
    PE X (.Call (.Attribute (.Name x p) ("append" : Str) apos) [e] [] cpos) (tEv T (ev cl (.push i e'))) :=
  (pe_bm PySem.F.plainAttrs_list PySem.F.slot_list_append PySem.F.type_list_append mt_append (pv_var (cl := cl) (T := T) hN hv hn) (pa_1 hp he) rfl (few1 hp X.env) hl (starEach_plain hp [] X.env) rfl).mono fun σ H Q ⟨F, ρ, env, st, w, st', r, hE, e1, fin⟩ => by
    simp only [ev] at e1
    split at e1
    · rename_i n h2
      split at e1
      · rename_i hL
        split at e1
        · rename_i w1 st1 h3
          split at e1
          · rename_i y st2 h4
            split at e1
            · rename_i ds h5
              split at e1
              · rename_i h6
                cases e1
                have hv1 : ev cl (.var i) env st = some (.ref n, st) := by simp only [ev]; rw [h2]
                refine ⟨F, ρ, env, st, .ref n, st, r, hE, hv1, fun F1 ρ1 H1 o s1 r1 w1 => ⟨list_at r1 w1 hL, ?_⟩⟩
                refine ⟨F1, ρ1, env, st, _, st1, r1, hE.step s1, h3, fun F2 ρ2 H2 v s2 r2 w2 => ?_⟩
                obtain ⟨F3, s3, r3, w3⟩ := freeze_ok r2 w2 h4
                obtain ⟨pa, hpa, eo⟩ := (w1.step s2).step s3
                have q := r3.look hpa
                rw [h5] at q
                obtain ⟨fa, b, vs, e2, k2, k3⟩ := q
                cases e2
                have hz : vs.length < sizeLine := by
                  have g1 := lenOk_le h6
                  have g2 : MAXL < sizeLine := by rw [sizeLine_eq]; decide
                  rw [k3.length]
                  omega
                refine ⟨pa, vs, v, eo, rfl, k2, hz, ?_⟩
                obtain ⟨r4, s4⟩ := r3.write (o' := .lst (vs ++ [v])) (ob := .lst (ds ++ [y])) hpa fa k2 nt_lst ⟨fa, pa, _, rfl, upd_same, k3.append (RDs.cons w3 rfl)⟩
                exact fin F3 ρ2 _ .non (((s1.trans s2).trans s3).trans s4) r4 rfl
              · cases e1
            · cases e1
          · cases e1
        · cases e1
      · cases e1
    · cases e1
theorem pv_extend (hl : (apos.endLine == cpos.line) = true) (hp : plainE e = true) (hN : X.N[i]? = some x) (hv : Vis X.env.scope x) (hn : okName x = true) (he : PE X e (tEv T (ev cl e'))) :
    PE X (.Call (.Attribute (.Name x p) ("extend" : Str) apos) [e] [] cpos) (tEv T (ev cl (.extend i e'))) :=
  (pe_bm PySem.F.plainAttrs_list PySem.F.slot_list_extend PySem.F.type_list_extend mt_extend (pv_var (cl := cl) (T := T) hN hv hn) (pa_1 hp he) rfl (few1 hp X.env) hl (starEach_plain hp [] X.env) rfl).mono fun σ H Q ⟨F, ρ, env, st, w, st', r, hE, e1, fin⟩ => by
    simp only [ev] at e1
    split at e1
    · rename_i n h2
      split at e1
      · rename_i hL
        split at e1
        · rename_i es st1 h3
          split at e1
          · rename_i ds h5
            split at e1
            · rename_i h6
              cases e1
              have hv1 : ev cl (.var i) env st = some (.ref n, st) := by simp only [ev]; rw [h2]
              refine ⟨F, ρ, env, st, .ref n, st, r, hE, hv1, fun F1 ρ1 H1 o s1 r1 w1 => ⟨list_at r1 w1 hL, ?_⟩⟩
              refine ⟨F1, ρ1, env, st, _, st1, r1, hE.step s1, h3, fun F2 ρ2 H2 v s2 r2 w2 => ?_⟩
              obtain ⟨pa, hpa, eo⟩ := w1.step s2
              have q := r2.look hpa
              rw [h5] at q
              obtain ⟨fa, b, vs, e2, k2, k3⟩ := q
              cases e2
              obtain ⟨pb, us, rfl, k4, k5⟩ := (w2 : RD F2 (.lst es) v)
              have hz : vs.length + us.length ≤ sizeLine := by
                have g1 := lenOk_le h6
                have g2 := line_MAXL
                rw [List.length_append] at g1
                rw [k3.length, k5.length]
                omega
              refine ⟨pa, pb, vs, us, eo, rfl, k2, r2.sub _ _ k4, hz, ?_⟩
              obtain ⟨r4, s4⟩ := r2.write (o' := .lst (vs ++ us)) (ob := .lst (ds ++ es)) hpa fa k2 nt_lst ⟨fa, pa, _, rfl, upd_same, k3.append k5⟩
              exact fin F2 ρ2 _ .non ((s1.trans s2).trans s4) r4 rfl
            · cases e1
          · cases e1
        · cases e1
      · cases e1
    · cases e1
theorem pv_pop (hl : (apos.endLine == cpos.line) = true) (hN : X.N[i]? = some x) (hv : Vis X.env.scope x) (hn : okName x = true) :
    PE X (.Call (.Attribute (.Name x p) ("pop" : Str) apos) [] [] cpos) (tEv T (ev cl (.pop1 i))) :=
  (pe_bm0 PySem.F.plainAttrs_list PySem.F.slot_list_pop PySem.F.type_list_pop mt_pop (pv_var (cl := cl) (T := T) hN hv hn) rfl hl).mono fun σ H Q ⟨F, ρ, env, st, w, st', r, hE, e1, fin⟩ => by
    simp only [ev] at e1
    split at e1
    · rename_i n h2
      split at e1
      · rename_i ds h5
        split at e1
        · rename_i y rr h6
          cases e1
          have hv1 : ev cl (.var i) env st = some (.ref n, st) := by simp only [ev]; rw [h2]
          refine ⟨F, ρ, env, st, .ref n, st, r, hE, hv1, fun F1 ρ1 H1 o s1 r1 w1 => ⟨list_at r1 w1 (by rw [h5]; rfl), ?_⟩⟩
          obtain ⟨pa, hpa, eo⟩ := w1
          have q := r1.look hpa
          rw [h5] at q
          obtain ⟨fa, b, vs, e2, k2, k3⟩ := q
          cases e2
          have k6 := k3.reverse
          rw [h6] at k6
          obtain ⟨v, t, e3, k7, k8⟩ := k6
          have hvs : vs = t.reverse ++ [v] := by
            have := congrArg List.reverse e3
            rw [List.reverse_reverse, List.reverse_cons] at this
            exact this
          refine ⟨pa, vs, v, eo, rfl, k2, by rw [hvs]; simp, ?_⟩
          have hd : vs.dropLast = t.reverse := by rw [hvs]; simp
          rw [hd]
          obtain ⟨r4, s4⟩ := r1.write (o' := .lst t.reverse) (ob := .lst rr.reverse) hpa fa k2 nt_lst ⟨fa, pa, _, rfl, upd_same, k8.reverse⟩
          exact fin F1 ρ1 _ v (s1.trans s4) r4 k7
        · cases e1
      · cases e1
    · cases e1
/-! ### dicts -/
theorem ev_dct_inv {box : Bool} {kvs : List E} {env : Env} {st st' : St} {w : W} (h : ev cl (.dct box kvs) env st = some (w, st')) : ∃ ks vs st1, evP cl kvs env st = some (ks, vs, st1) ∧ putOb box st1 (.dct ks vs) = some (w, st') := by
  simp only [ev] at h
  split at h
  · rename_i ks vs st1 h1
    refine ⟨ks, vs, st1, h1, ?_⟩
    cases box <;> exact h
  · cases h
theorem pv_dct0 {box : Bool} : PE X (.Dict [] [] pos) (tEv T (ev cl (.dct box []))) := pe_dnewK.mono fun σ H Q ⟨F, ρ, env, st, w, st', r, hE, e1, fin⟩ => by
  obtain ⟨ks, vs, st1, h1, h2⟩ := ev_dct_inv e1
  cases h1
  intro p hp
  have s0 : Step T F ρ (upd H p (.dK [])) F ρ (upd H p (.dK [])) := Step.refl
  obtain ⟨fp, pT, pr⟩ := r.none_of hp
  have q := Fin.made (o := .dK []) (o' := .dK []) (ob := .dct [] []) fin r hp s0 (r.other fp pT pr) nt_dK (by
    rw [upd_upd]
    exact ⟨fp, p, [], rfl, rfl, .inl ⟨[], upd_same, rfl, rfl⟩⟩) h2
  rw [upd_upd] at q
  exact q
theorem pv_dct1 {box : Bool} (ha : PE X a (tEv T (ev cl a'))) (hb : PE X b (tEv T (ev cl b'))) : PE X (.Dict [some a] [b] pos) (tEv T (ev cl (.dct box [a', b']))) :=
  (pe_disp (pps_cons ha hb pps_nil) rfl rfl (by simp) (by simp)).mono fun σ H Q ⟨F, ρ, env, st, w, st', r, hE, e1, fin⟩ => by
    obtain ⟨ks, vs, st1, h1, h2⟩ := ev_dct_inv e1
    simp only [evP] at h1
    split at h1
    · rename_i kd st2 h3
      split at h1
      · rename_i w1 st3 h4
        split at h1
        · rename_i y st4 h5
          split at h1
          · rename_i h6
            cases h1
            intro p hp
            obtain ⟨fp, pT, pr⟩ := r.none_of hp
            refine ⟨F, ρ, env, st, _, st2, r.other fp pT pr, hE, h3, fun F1 ρ1 H1 kv s1 r1 w2 => ?_⟩
            refine ⟨F1, ρ1, env, st2, w1, st3, r1, hE.step s1, h4, fun F2 ρ2 H2 v s2 r2 w3 => ?_⟩
            obtain ⟨F3, s3, r3, w4⟩ := freeze_ok r2 w3 h5
            have S := (s1.trans s2).trans s3
            obtain ⟨f3, pr3, h3p⟩ := Step.apart r hp S
            obtain ⟨kk, rfl⟩ := isKey_of h6
            have ekv : kv = kV kk := RD.key (w2 : RD F1 (kD kk) kv)
            subst ekv
            refine ⟨h3p, [(kk, v)], rfl, ?_⟩
            have em : mergeK [] [(kk, v)] = [(kk, v)] := rfl
            rw [em]
            refine ⟨by simp, ?_⟩
            exact Fin.made (o := .dK []) (o' := .dK [(kk, v)]) (ob := .dct [kD kk] [y]) fin r hp S r3 nt_dK ⟨f3, p, [v], rfl, RDs.cons w4 rfl, .inl ⟨[(kk, v)], upd_same, rfl, rfl⟩⟩ h2
          · cases h1
        · cases h1
      · cases h1
    · cases h1
/-- d.get(k), d.get(k, z) -/
def tGetA (td ty tz : TE) : TE := fun σ H Q => td σ H fun x H1 => ∃ a, x = .ref a ∧ IsD H1 a ∧ ty σ H1 fun y H2 => tz σ H2 fun z H3 => ∃ F ks ws k zd, Le F H3 ∧ RT F H3 (.dct ks ws) (.ref a) ∧ RD H3 k y ∧ RD F zd z ∧ keyOk ks k = true ∧
  ∀ v, RD F (orD (lookD k ks ws) zd) v → Q v H3
theorem get_core {F H : Hp} {ks ws : List D} {k zd : D} {a : Addr} {y z : V} {pins : List (Addr × Obj)} {σ : L2.St} {s : Shared} (I : Inv X pins σ H s) (l : Le F H) (h : RT F H (.dct ks ws) (.ref a)) (hk : RD H k y) (hz : RD F zd z) (ok : keyOk ks k = true) :
    ∃ H2 o, Inv X pins σ H2 s ∧ DGet H2 a y o ∧ (∀ s', Inv X pins σ H2 s' → Inv X pins σ H s') ∧ RD F (orD (lookD k ks ws) zd) (o.getD z) := by
  obtain ⟨b, e1, κ, inst, E, kk, kvs, mkd, kS, rfl, rfl, h5⟩ := keys_of l h ok hk
  cases e1
  obtain ⟨H2, I2, g, bk⟩ := dget_any kS I
  refine ⟨H2, _, I2, g, bk, ?_⟩
  have lv := lookD_val E kk h5
  cases q : lookD (E.enc kk) (kvs.map fun p => E.enc p.1) ws with
  | none =>
    rw [q] at lv
    rw [lv]
    exact hz
  | some d =>
    rw [q] at lv
    obtain ⟨w, h6, h7⟩ := lv
    rw [h6]
    exact h7
theorem pe_getA1 (hu : X.A.units + 100 < cLine) {td ty : TE} (hb : baseE a = true) (hl : (apos.endLine == cpos.line) = true) (hp : plainE e = true) (ho : PE X a td) (he : PE X e ty) :
    PE X (.Call (.Attribute a ("get" : Str) apos) [e] [] cpos) (tGetA td ty (tC .non)) := by
  refine ⟨fun pins s σ H Q I h => ?_⟩
  refine wpAny_Call_method (base_of hb _ _) (few1 hp X.env) hl PySem.F.plainAttrs_dict PySem.F.slot_dict_get PySem.F.type_dict_get (thn (ho.run pins s σ H _ I h) fun u s1 ⟨x, H1, I1, rx, a, ex, d, q1⟩ => ?_)
  subst ex
  obtain rfl : u = Value.ref a := rx
  obtain ⟨t1, t2, _⟩ := isD_at I1 d
  refine ⟨t1, t2, ?_⟩
  rw [starEach_plain hp]
  refine Calls.callWith_builtin rfl (Calls.evalArgs_plain (Calls.spliced_cons (thn (he.run pins s1 σ H1 _ I1 q1) fun iv s2 ⟨y, H2, I2, ry, q2⟩ => Calls.spliced_nil ?_)))
  obtain ⟨F, ks, ws, k, zd, l, hd, hk, hz, ok, q3⟩ := q2
  obtain ⟨H3, o, I3, g, bk, hv⟩ := get_core I2 l hd hk hz ok
  exact d_get1 (by omega) I3 g ry fun w' s3 I4 rw' => ⟨_, H2, bk s3 I4, rw', q3 _ hv⟩
theorem few2 (hp : plainE e = true) (hq : plainE f = true) (env : PySem.Env) : ((backTo cpos (starEach [e, f] env)).all (fun x => !x.1) && (backToKw cpos (keywordEach [] env)).all (fun x => x.1.isSome)
      && decide (([e, f] : List Expr).length + ([] : List Keyword).length + (if ([] : List Keyword).isEmpty then 0 else 1) < 30)) = true := by
  rw [starEach_plain hp, starEach_plain hq]
  rfl
theorem pe_getA2 (hu : X.A.units + 100 < cLine) {td ty tz : TE} (hb : baseE a = true) (hl : (apos.endLine == cpos.line) = true) (hp : plainE e = true) (hq : plainE f = true) (ho : PE X a td) (he : PE X e ty) (hf : PE X f tz) :
    PE X (.Call (.Attribute a ("get" : Str) apos) [e, f] [] cpos) (tGetA td ty tz) := by
  refine ⟨fun pins s σ H Q I h => ?_⟩
  refine wpAny_Call_method (base_of hb _ _) (few2 hp hq X.env) hl PySem.F.plainAttrs_dict PySem.F.slot_dict_get PySem.F.type_dict_get (thn (ho.run pins s σ H _ I h) fun u s1 ⟨x, H1, I1, rx, a, ex, d, q1⟩ => ?_)
  subst ex
  obtain rfl : u = Value.ref a := rx
  obtain ⟨t1, t2, _⟩ := isD_at I1 d
  refine ⟨t1, t2, ?_⟩
  rw [starEach_plain hp, starEach_plain hq]
  refine Calls.callWith_builtin rfl (Calls.evalArgs_plain (Calls.spliced_cons (thn (he.run pins s1 σ H1 _ I1 q1) fun iv s2 ⟨y, H2, I2, ry, q2⟩ =>
    Calls.spliced_cons (thn (hf.run pins s2 σ H2 _ I2 q2) fun fv s3 ⟨z, H3, I3, rz, q3⟩ => Calls.spliced_nil ?_))))
  obtain ⟨F, ks, ws, k, zd, l, hd, hk, hz, ok, q4⟩ := q3
  obtain ⟨H4, o, I4, g, bk, hv⟩ := get_core I3 l hd hk hz ok
  exact d_get2 (by omega) I4 g ry rz fun w' s4 I5 rw' => ⟨_, H3, bk s4 I5, rw', q4 _ hv⟩
theorem isD_of {F H : Hp} {d : D} {v : V} (h : RT F H d v) (k : isDct (some d) = true) : ∃ a, v = .ref a ∧ IsD H a := by
  cases d with
  | dct ks ws =>
    obtain ⟨a, vs, rfl, h1, h2⟩ := h
    rcases h2 with ⟨kvs, h3, _⟩ | ⟨kvs, _, h3, _⟩
    · exact ⟨a, rfl, .inl ⟨kvs, .inl h3⟩⟩
    · exact ⟨a, rfl, .inr ⟨kvs, .inl h3⟩⟩
  | _ => cases k
theorem get_step {σ : L2.St} {H : Hp} {Q : VK} (h : tEv T (ev cl (.dget a' e' f')) σ H Q) : tGetA (tEv T (ev cl a')) (tEv T (ev cl e')) (tEv T (ev cl f')) σ H Q := by
  obtain ⟨F, ρ, env, st, w, st', r, hE, e1, fin⟩ := h
  simp only [ev] at e1
  split at e1
  · rename_i x st1 h1
    split at e1
    · rename_i hD
      split at e1
      · rename_i k st2 h2
        split at e1
        · rename_i z st3 h3
          split at e1
          · rename_i ks ws h4
            split at e1
            · rename_i ok
              cases e1
              refine ⟨F, ρ, env, st, x, st1, r, hE, h1, fun F1 ρ1 H1 o s1 r1 w1 => ?_⟩
              cases hv : view st1 x with
              | none => rw [hv] at hD; cases hD
              | some d =>
                rw [hv] at hD
                obtain ⟨a, rfl, isd⟩ := isD_of (view_ok r1 w1 hv) hD
                refine ⟨a, rfl, isd, F1, ρ1, env, st1, _, st2, r1, hE.step s1, h2, fun F2 ρ2 H2 y s2 r2 w2 => ?_⟩
                refine ⟨F2, ρ2, env, st2, _, _, r2, (hE.step s1).step s2, h3, fun F3 ρ3 H3 zv s3 r3 w3 => ?_⟩
                exact ⟨F3, ks, ws, k, z, r3.sub, view_ok r3 ((w1.step s2).step s3) h4, RD.le (s3.le.trans r3.sub) w2, w3, ok, fun v hv => (fin.step ((s1.trans s2).trans s3)).d r3 hv⟩
            · cases e1
          · cases e1
        · cases e1
      · cases e1
    · cases e1
  · cases e1
theorem pv_get1 (hu : X.A.units + 100 < cLine) (hb : baseE a = true) (hl : (apos.endLine == cpos.line) = true) (hp : plainE e = true) (ho : PE X a (tEv T (ev cl a'))) (he : PE X e (tEv T (ev cl e'))) :
    PE X (.Call (.Attribute a ("get" : Str) apos) [e] [] cpos) (tEv T (ev cl (.dget a' e' (.lit .non)))) := (pe_getA1 hu hb hl hp ho he).mono fun σ H Q h => by
  obtain ⟨F, ρ, env, st, w, st', r, hE, e1, fin⟩ := get_step h
  refine ⟨F, ρ, env, st, w, st', r, hE, e1, fun F1 ρ1 H1 o s1 r1 w1 => ?_⟩
  obtain ⟨a, ea, isd, F2, ρ2, env2, st2, w2, st3, r2, hE2, e2, fin2⟩ := fin F1 ρ1 H1 o s1 r1 w1
  refine ⟨a, ea, isd, F2, ρ2, env2, st2, w2, st3, r2, hE2, e2, fun F3 ρ3 H3 y s3 r3 w3 => ?_⟩
  obtain ⟨F4, ρ4, env4, st4, w4, st5, r4, hE4, e4, fin4⟩ := fin2 F3 ρ3 H3 y s3 r3 w3
  cases e4
  exact fin4 F4 ρ4 H3 .non Step.refl r4 rfl
theorem pv_get2 (hu : X.A.units + 100 < cLine) (hb : baseE a = true) (hl : (apos.endLine == cpos.line) = true) (hp : plainE e = true) (hq : plainE f = true) (ho : PE X a (tEv T (ev cl a'))) (he : PE X e (tEv T (ev cl e'))) (hf : PE X f (tEv T (ev cl f'))) :
    PE X (.Call (.Attribute a ("get" : Str) apos) [e, f] [] cpos) (tEv T (ev cl (.dget a' e' f'))) := (pe_getA2 hu hb hl hp hq ho he hf).mono fun σ H Q h => get_step h
end
end Rf
/-! Rf16: list comprehensions of one clause. -/
namespace Rf
open PySem PySem.Spec PyProof.Rows L2 PySem.W
section
variable {T : List Addr} {F F' : Hp} {ρ ρ' : List Addr} {st st' : St} {H H' : Hp}
theorem Step.drop (s : Step T F [] H F' ρ' H') : Step T F [] H F' [] H' := ⟨s.le, s.new, ⟨[], rfl, fun _ z => absurd z (by simp)⟩, s.pres, s.dom⟩
theorem Step.unseal {p : Addr} {o : HO} {u : HO} (hp : H p = none) (s : Step T F ρ (upd H p o) F' ρ' H') (hu : H' p = some u) : Step T F ρ H F' (ρ' ++ [p]) H' := by
  have q := Step.seal (o' := u) hp s
  have e : upd H' p u = H' := by
    funext b
    by_cases h : b = p
    · subst h; rw [upd_same, hu]
    · rw [upd_ne h]
  rw [e] at q
  obtain ⟨m, em, n⟩ := q.grow
  refine ⟨q.le, q.new, ⟨m ++ [p], by rw [em, List.append_assoc], fun a z => ?_⟩, q.pres, q.dom⟩
  rcases List.mem_append.mp z with z | z
  · exact n a z
  · have e : a = p := by simpa using z
    rw [e]; exact hp
theorem Step.over {p : Addr} {o : HO} (s : Step T F ρ H F' ρ' H') (hp : H p = none) : Step T F ρ H F' ρ' (upd H' p o) := by
  refine ⟨s.le, s.new, s.grow, fun a u e hT hr => ?_, fun a u e => ?_⟩
  · rw [upd_ne (ne_of_none e hp)]; exact s.pres a u e hT hr
  · obtain ⟨o2, e2⟩ := s.dom a u e
    exact ⟨o2, by rw [upd_ne (ne_of_none e hp)]; exact e2⟩
theorem Step.keepN {p : Addr} {o : HO} (s : Step T F [] H F' ρ' H') (hp : H p = some o) (fp : F p = none) : F' p = none := by
  cases q : F' p with
  | none => rfl
  | some u =>
    rcases s.new p u q with k | k | k
    · rw [fp] at k; cases k
    · rw [hp] at k; cases k
    · cases k
theorem Step.back {p : Addr} (s : Step T F ρ H F' ρ' H') (hp : H' p = none) : H p = none := by
  cases q : H p with
  | none => rfl
  | some o =>
    obtain ⟨o', e⟩ := s.dom p o q
    rw [hp] at e; cases e
theorem wipe_sub {σ : L2.St} {vs : List Nat} : ∀ {us : List Nat}, (∀ u ∈ us, u ∈ vs) → wipe (wipe σ us) vs = wipe σ vs
  | [], _ => rfl
  | u :: us, h => by
    show wipe ((wipe σ us).set u none) vs = wipe σ vs
    rw [wipe_in (h u (List.mem_cons_self ..)), wipe_sub fun v hv => h v (List.mem_cons_of_mem _ hv)]
theorem nil_of (r : Rl T F ρ [] H) : ρ = [] := List.eq_nil_of_length_eq_zero (by rw [r.len]; rfl)
end
/-- a clause's tests -/
def tTs (T : List Addr) (f : Env → Option Bool) : TT := fun σ H Q => ∃ F env b, Rl T F [] [] H ∧ RE F [] env σ ∧ f env = some b ∧ ∀ F' H', Step T F [] H F' [] H' → Rl T F' [] [] H' → Q b H'
theorem _root_.L2.PTs.mono {X : Cx} {e : List Expr} {t t' : TT} (h : PTs X e t) (m : ∀ σ H Q, t' σ H Q → t σ H Q) : PTs X e t' := ⟨fun pins s σ H Q I q => h.run pins s σ H Q I (m σ H Q q)⟩
section
variable {X : Cx} {T : List Addr} {cl : Calls} {pos : Pos} {c : Expr} {c' : E}
theorem pts_0 : PTs X [] (tTs T (tests (evT cl []))) := pts_nil.mono fun σ H Q ⟨F, env, b, r, hE, e1, fin⟩ => by
  cases e1
  exact fin F H Step.refl r
theorem pts_1 (hc : PT X c (tTv T (ev cl c'))) : PTs X [c] (tTs T (tests (evT cl [c']))) := (pts_one hc).mono fun σ H Q ⟨F, env, b, r, hE, e1, fin⟩ => by
  have e1 : (match Rf.bool (ev cl c' env []) with | some true => some true | some false => some false | none => none) = some b := e1
  have h : ∃ st', ev cl c' env [] = some (.d (.bl b), st') := by
    cases q : ev cl c' env [] with
    | none => rw [q] at e1; cases e1
    | some p =>
      rw [q] at e1
      obtain ⟨w, st'⟩ := p
      cases w with
      | d d =>
        cases d with
        | bl k => cases k <;> (cases e1; exact ⟨st', rfl⟩)
        | _ => cases e1
      | _ => cases e1
  obtain ⟨st', h⟩ := h
  exact ⟨F, [], env, [], b, st', r, hE, h, fun F1 ρ1 H1 s1 r1 => fin F1 H1 s1.drop r1.none_⟩
theorem dat_inv {f : Env → St → Rs} {env : Env} {d : D} (h : dat (f env []) = some d) : ∃ w st1 st2, f env [] = some (w, st1) ∧ freeze st1 w = some (d, st2) := by
  cases q : f env [] with
  | none => rw [q] at h; cases h
  | some p =>
    obtain ⟨w, st1⟩ := p
    rw [q] at h
    have h : (match freeze st1 w with | some (d, _) => some d | none => none) = some d := h
    cases q2 : freeze st1 w with
    | none => rw [q2] at h; cases h
    | some p2 =>
      obtain ⟨d2, st2⟩ := p2
      rw [q2] at h
      cases h
      exact ⟨w, st1, st2, rfl, q2⟩
theorem ev_comp_inv {elt it : E} {own : List Nat} {t : Rf.T} {fs : List E} {env : Env} {st st' : St} {w : W} (h : ev cl (.comp elt own t it fs) env st = some (w, st')) :
    ∃ ds r, st = [] ∧ evF cl it env [] = some (.seq ds, []) ∧ lenOk ds = true ∧ compL (ev cl elt) (tests (evT cl fs)) t (wipeE env own) ds = some r ∧ w = .ref 0 ∧ st' = [.lst r] := by
  simp only [ev] at h
  split at h
  · split at h
    · rename_i ds h1
      split at h
      · rename_i r h2
        cases h
        have h3 : ∃ ds', evF cl it env [] = some (.seq ds', []) ∧ lenOk ds' = true ∧ ds' = ds := by
          unfold seqOnly at h1
          split at h1
          · rename_i ds' h4
            cases hl : lenOk ds' with
            | false => rw [hl] at h1; cases h1
            | true => rw [hl] at h1; cases h1; exact ⟨ds, h4, hl, rfl⟩
          · cases h1
        obtain ⟨ds', h4, h5, rfl⟩ := h3
        exact ⟨ds', r, rfl, h4, h5, h2, rfl, rfl⟩
      · cases h
    · cases h
  · cases h
theorem lc_step {elt it : E} {own : List Nat} {t : Rf.T} {fs : List E} {σ : L2.St} {H : Hp} {Q : VK} (ht : tgIn own t = true) (h : tEv T (ev cl (.comp elt own t it fs)) σ H Q) :
    tLc (tIv T (evF cl it)) (tTg T t) (tTs T (tests (evT cl fs))) (tEv T (ev cl elt)) own σ H Q := by
  obtain ⟨F, ρ, env, st, w, st', r, hE, e1, fin⟩ := h
  obtain ⟨ds, res, rfl, h1, hl, h2, rfl, rfl⟩ := ev_comp_inv e1
  have e0 := nil_of r
  subst e0
  have hm : ds.length < sizeLine := by
    have g1 := lenOk_le hl
    have g2 : MAXL < sizeLine := by rw [sizeLine_eq]; decide
    omega
  refine ⟨F, [], env, [], .seq ds, [], r, hE, h1, fun F1 ρ1 H1 J s1 r1 hJ D hD => ?_⟩
  have e1 := nil_of r1
  subst e1
  obtain ⟨fD, TD, _⟩ := r1.none_of hD
  refine ⟨fun i m Hi => ∃ F2 vs d0 es, Step T F1 [] H1 F2 [] Hi ∧ Rl T F2 [] [] Hi ∧ Hi D = some (.lst vs) ∧ F2 D = none ∧ RDs F2 d0 vs ∧ compL (ev cl elt) (tests (evT cl fs)) t (wipeE env own) (ds.drop i) = some es ∧ res = d0 ++ es ∧ m = ds.length - i ∧ vs.length ≤ i ∧ i ≤ ds.length,
    ⟨ds.length, F1, [], [], res, Step.refl.over hD, r1.other fD TD (by simp), upd_same, fD, rfl, by simpa using h2, rfl, by simp, by simp, by simp⟩, ?_⟩
  rintro i m Hi ⟨F2, vs, d0, es, s2, r2, hDi, f2, hd0, hc, er, em, hvi, hi⟩
  have J1 := hJ i F2 [] [] Hi s2.le ⟨[], rfl⟩ r2
  by_cases hlt : i < ds.length
  · have hx : nth ds i = some ds[i] := by rw [nth_eq]; exact List.getElem?_eq_getElem hlt
    simp only [nxt, hx] at J1
    have hdr : ds.drop i = ds[i] :: ds.drop (i + 1) := List.drop_eq_getElem_cons hlt
    rw [hdr] at hc
    simp only [compL] at hc
    refine .inr ⟨J1.1, fun H' => ∃ F3 vs3 d3 es3, Step T F1 [] H1 F3 [] H' ∧ Rl T F3 [] [] H' ∧ H' D = some (.lst vs3) ∧ F3 D = none ∧ RDs F3 d3 vs3 ∧ compL (ev cl elt) (tests (evT cl fs)) t (wipeE env own) (ds.drop (i + 1)) = some es3 ∧ res = d3 ++ es3 ∧ vs3.length ≤ i + 1, ?_, ?_⟩
    · rintro H' ⟨F3, vs3, d3, es3, q1, q2, q3, q4, q5, q6, q7, q8⟩
      exact ⟨ds.length - (i + 1), by omega, F3, vs3, d3, es3, q1, q2, q3, q4, q5, q6, q7, rfl, q8, hlt⟩
    · intro x H2 hy
      obtain ⟨F3, s3, r3, hx3⟩ := J1.2 x H2 hy
      have S3 := s2.trans s3
      have hD3 : H2 D = some (.lst vs) := s3.pres D _ hDi TD (by simp)
      have f3 := s3.keepN hDi f2
      split at hc
      · cases hc
      · rename_i env2 h3
        refine ⟨F3, [], wipeE env own, [], ds[i], env2, r3, ((RE.wipe hE own).step s1).step S3, hx3, h3, fun σ2 hE2 ow => ⟨(ow own ht).trans (wipe_sub fun _ h => h), ?_⟩⟩
        split at hc
        · cases hc
        · rename_i h4
          refine ⟨F3, env2, false, r3, hE2, h4, fun F4 H4 s4 r4 => ?_⟩
          show if false = true then _ else _
          rw [if_neg (by decide)]
          exact ⟨F4, vs, d0, es, S3.trans s4, r4, s4.pres D _ hD3 TD (by simp), s4.keepN hD3 f3, (hd0.le s3.le).le s4.le, hc, er, by omega⟩
        · rename_i h4
          refine ⟨F3, env2, true, r3, hE2, h4, fun F4 H4 s4 r4 => ?_⟩
          show if true = true then _ else _
          rw [if_pos rfl]
          have hD4 : H4 D = some (.lst vs) := s4.pres D _ hD3 TD (by simp)
          have f4 := s4.keepN hD3 f3
          split at hc
          · cases hc
          · rename_i d h5
            split at hc
            · rename_i es2 h6
              cases hc
              obtain ⟨w5, st5, st6, h7, h8⟩ := dat_inv h5
              refine ⟨F4, [], env2, [], w5, st5, r4, hE2.step s4, h7, fun F5 ρ5 H5 y s5 r5 w6 => ?_⟩
              obtain ⟨F6, s6, r6, w7⟩ := freeze_ok r5 w6 h8
              have S6 : Step T F4 [] H4 F6 [] H5 := (s5.trans s6).drop
              have hD5 : H5 D = some (.lst vs) := S6.pres D _ hD4 TD (by simp)
              have f6 := S6.keepN hD4 f4
              refine ⟨vs, hD5, by omega, ?_⟩
              exact ⟨F6, vs ++ [y], d0 ++ [d], es2, ((S3.trans s4).trans S6).over hD, r6.none_.other f6 TD (by simp), upd_same, f6, (((hd0.le s3.le).le s4.le).le S6.le).append (RDs.cons w7 rfl), h6, by rw [er]; simp, by simp; omega⟩
            · cases hc
  · have ei : i = ds.length := by omega
    subst ei
    have hx : nth ds ds.length = none := by rw [nth_eq]; exact List.getElem?_eq_none (Nat.le_refl _)
    simp only [nxt, hx, stopAt_self] at J1
    have hc2 : compL (ev cl elt) (tests (evT cl fs)) t (wipeE env own) [] = some es := by
      rw [List.drop_length] at hc
      exact hc
    cases hc2
    rw [List.append_nil] at er
    subst er
    have S := s1.trans s2
    have hHD : H D = none := s1.back hD
    have ra : Rl T F2 ([] ++ [D]) ([] ++ [.lst res]) Hi := r2.add hDi nt_lst TD (by simp) ⟨f2, D, vs, rfl, hDi, hd0⟩
    refine .inl ⟨J1, fin F2 [D] Hi _ ⟨S.le, S.new, ⟨[D], rfl, fun a z => ?_⟩, S.pres, S.dom⟩ ra ⟨D, rfl, rfl⟩⟩
    have e : a = D := by simpa using z
    rw [e]; exact hHD
theorem pv_lc {elt tg iter : Expr} {ifs : List Expr} {scope : Scope} {own : List (Str × Nat)} {elt' it' : E} {t : Rf.T} {fs : List E} (hc : X.calm = true) (hN : X.N.Nodup) (hpl : plainE iter = true) (hi : PI X tg iter (tIv T (evF cl it'))) (ok : BlkOk X.N X.env.scope scope own) (ht : tgIn (own.map (·.2)) t = true)
    (hg : ∀ (s : Shared) (H : Hp) (C : Addr) (cl : List (Str × Addr)) (fp : List Addr), PG (X.blk s H scope (compEnvC scope cl C X.env) fp) tg (tTg T t)) (hts : ∀ (s : Shared) (H : Hp) (C : Addr) (cl' : List (Str × Addr)) (fp : List Addr), PTs (X.blk s H scope (compEnvC scope cl' C X.env) fp) ifs (tTs T (tests (evT cl fs))))
    (he : ∀ (s : Shared) (H : Hp) (C : Addr) (cl' : List (Str × Addr)) (fp : List Addr), PE (X.blk s H scope (compEnvC scope cl' C X.env) fp) elt (tEv T (ev cl elt'))) :
    PE X (.ListComp elt [⟨tg, iter, ifs, 0⟩] scope pos) (tEv T (ev cl (.comp elt' (own.map (·.2)) t it' fs))) :=
  (pe_lc hc hN hi ok hg hts he (fun x => by cases iter <;> first | rfl | cases hpl)).mono fun σ H Q h => lc_step ht h
end
end Rf
/-! Rf17: built-in functions of values. -/
namespace Rf
open PySem PySem.Spec PyProof.Rows L2 PySem.W
def RTs (F H : Hp) : List D → List V → Prop
  | [], vs => vs = []
  | d :: ds, vs => ∃ v r, vs = v :: r ∧ RT F H d v ∧ RTs F H ds r
theorem views_ok {T : List Addr} {F : Hp} {ρ : List Addr} {st : St} {H : Hp} (r : Rl T F ρ st H) : ∀ {ws : List W} {ds : List D} {vs : List V}, views st ws = some ds → RWs F ρ ws vs → RTs F H ds vs
  | [], ds, vs, e, h => by cases e; exact h
  | w :: ws, ds, vs, e, h => by
    obtain ⟨v, t, rfl, h1, h2⟩ := h
    simp only [views] at e
    cases hv : view st w with
    | none => rw [hv] at e; cases e
    | some d =>
      rw [hv] at e
      cases hs : views st ws with
      | none => simp only [hs] at e; cases e
      | some ds' =>
        simp only [hs] at e
        cases e
        exact ⟨v, t, rfl, view_ok r h1 hv, views_ok r hs h2⟩
def rU1 (f : D → Option PR) : List V → Hp → VK → Prop := fun vs H Q => ∃ F v d r, vs = [v] ∧ Le F H ∧ RT F H d v ∧ f d = some r ∧ ∀ v H', PRo F H r v H' → Q v H'
def rB2 (f : D → D → Option PR) : List V → Hp → VK → Prop := fun vs H Q => ∃ F v u d c r, vs = [v, u] ∧ Le F H ∧ RT F H d v ∧ RT F H c u ∧ f d c = some r ∧ ∀ v H', PRo F H r v H' → Q v H'
/-- what a value's items are -/
theorem lst_at {F H : Hp} {ds : List D} {v : V} (h : RT F H (.lst ds) v) : ∃ a vs, v = .ref a ∧ H a = some (.lst vs) ∧ RDs F ds vs := h
theorem tup_at {F H : Hp} {k : Bool} {ds : List D} {v : V} (h : RT F H (.tup k ds) v) : ∃ a vs, v = .ref a ∧ TupAt F k a vs ∧ RDs F ds vs := h
theorem ref1 {a : Addr} {us : List Value} (r : Vals [V.ref a] us) : us = [.ref a] := by
  cases r with
  | cons r t => cases t; cases r; rfl
section
variable {X : Cx}
theorem pr_len : CallR X (.builtin "len") (rU1 pLen) := by
  intro pins s σ H xs us Q I r ⟨F, v, d, res, ev, l, h, e, hQ⟩
  subst ev
  cases d with
  | lst ds =>
    cases e
    obtain ⟨a, vs, rfl, h1, h2⟩ := lst_at h
    refine call_len_seq pins s σ H _ us Q I r ⟨a, vs, rfl, .inl (SqL.of h1), ?_⟩
    rw [h2.length]
    exact hQ _ _ (PRo.data rfl)
  | tup k ds =>
    cases e
    obtain ⟨a, vs, rfl, h1, h2⟩ := tup_at h
    refine call_len_seq pins s σ H _ us Q I r ⟨a, vs, rfl, .inr (h1.sq l), ?_⟩
    rw [h2.length]
    exact hQ _ _ (PRo.data rfl)
  | str z =>
    have e : (match lenOk z with | true => some (PR.d (.int z.length)) | false => none) = some res := e
    cases hl : lenOk z with
    | false => rw [hl] at e; cases e
    | true =>
      rw [hl] at e
      cases e; cases h
      have h1 := lenOk_le hl
      have h2 := line_MAXL
      refine call_len_str pins s σ H _ us Q I r ⟨_, rfl, by rw [strlen]; omega, ?_⟩
      rw [strlen]
      exact hQ _ _ (PRo.data rfl)
  | dct ks ws =>
    have e : (match ks.all isKey with | true => some (PR.d (.int ks.length)) | false => none) = some res := e
    cases hk : ks.all isKey with
    | false => rw [hk] at e; cases e
    | true =>
      rw [hk] at e
      cases e
      obtain ⟨a, vs, rfl, h1, h2⟩ := h
      rw [ref1 r]
      rcases h2 with ⟨kvs, h3, h4, h5⟩ | ⟨kvs, hn, h3, h4, h5⟩
      · refine d_len I (.inl h3) fun t s' I' => ⟨.int kvs.length, H, I', ⟨t, rfl⟩, ?_⟩
        have := hQ _ _ (PRo.data (F := F) (H := H) (x := .int ks.length) rfl)
        rw [h4, List.length_map] at this
        exact this
      · cases kvs with
        | nil => exact absurd rfl hn
        | cons p r => rw [h4] at hk; simp [isKey] at hk
  | _ => cases e
theorem pr_abs : CallR X (.builtin "abs") (rU1 pAbs) := by
  intro pins s σ H xs us Q I r ⟨F, v, d, res, ev, l, h, e, hQ⟩
  subst ev
  cases d with
  | int i =>
    cases e; cases h
    refine call_abs pins s σ H _ us Q I r ⟨i, rfl, ?_⟩
    have e2 : (if i < 0 then -i else i) = (i.natAbs : Int) := by split <;> omega
    rw [e2]
    exact hQ _ _ (PRo.data rfl)
  | _ => cases e
theorem pr_int : CallR X (.type "int") (rU1 pInt) := by
  intro pins s σ H xs us Q I r ⟨F, v, d, res, ev, l, h, e, hQ⟩
  subst ev
  cases d with
  | int i =>
    cases e; cases h
    exact call_int1 pins s σ H _ us Q I r (.inl ⟨i, rfl, hQ _ _ (PRo.data rfl)⟩)
  | bl b =>
    cases e; cases h
    refine call_int1 pins s σ H _ us Q I r (.inr ⟨b, rfl, ?_⟩)
    cases b <;> exact hQ _ _ (PRo.data rfl)
  | _ => cases e
theorem sumL_ok : ∀ {ds : List D} {a i : Int}, sumL a ds = some i → ∃ ns : List Int, ds = ns.map D.int ∧ i = a + ns.sum
  | [], a, i, h => by cases h; exact ⟨[], rfl, by simp⟩
  | .int j :: ds, a, i, h => by
    obtain ⟨ns, h1, h2⟩ := sumL_ok (ds := ds) (a := a + j) h
    exact ⟨j :: ns, by rw [h1]; rfl, by rw [h2, List.sum_cons]; omega⟩
  | .non :: _, _, _, h => by cases h
  | .bl _ :: _, _, _, h => by cases h
  | .str _ :: _, _, _, h => by cases h
  | .tup _ _ :: _, _, _, h => by cases h
  | .lst _ :: _, _, _, h => by cases h
  | .dct _ _ :: _, _, _, h => by cases h
theorem RDs.ints {F : Hp} : ∀ {ns : List Int} {vs : List V}, RDs F (ns.map D.int) vs → vs = ns.map V.int
  | [], vs, h => h
  | n :: ns, vs, h => by
    obtain ⟨v, r, rfl, h1, h2⟩ := h
    cases h1
    rw [RDs.ints h2]
    rfl
theorem pr_sum (hc : X.calm = true) : CallR X (.builtin "sum") (rU1 pSum) := by
  intro pins s σ H xs us Q I r ⟨F, v, d, res, ev, l, h, e, hQ⟩
  subst ev
  cases d with
  | lst ds =>
    have e : (match sumL 0 ds with | some i => some (PR.d (.int i)) | none => none) = some res := e
    cases hs : sumL 0 ds with
    | none => rw [hs] at e; cases e
    | some i =>
      rw [hs] at e
      cases e
      obtain ⟨ns, rfl, rfl⟩ := sumL_ok hs
      obtain ⟨a, vs, rfl, h1, h2⟩ := lst_at h
      rw [h2.ints] at h1
      refine cr_sum hc pins s σ H _ us Q I r ⟨a, ns, rfl, SqL.of h1, ?_⟩
      rw [Int.zero_add] at hQ
      exact hQ _ _ (PRo.data rfl)
  | tup k ds =>
    have e : (match sumL 0 ds with | some i => some (PR.d (.int i)) | none => none) = some res := e
    cases hs : sumL 0 ds with
    | none => rw [hs] at e; cases e
    | some i =>
      rw [hs] at e
      cases e
      obtain ⟨ns, rfl, rfl⟩ := sumL_ok hs
      obtain ⟨a, vs, rfl, h1, h2⟩ := tup_at h
      have h3 := h2.ints
      subst h3
      obtain ⟨its, rv, ht, hz⟩ := I.tuple (h1.sq l (K := X.K))
      have hi := intsAre_of rv
      obtain ⟨ps, h4⟩ := hi.allInts.items
      have hn : numsOf its.toArray.toList = ns := by rw [show its.toArray.toList = its from rfl, hi.numsOf]
      rw [ref1 r]
      have ht2 : s.heap.IsTuple a (intItems ps) := by rw [← h4]; exact ht
      rw [h4, nums_intItems] at hn
      refine ktm_sumG (I.ok.hd hc) ht2 fun h' tk t' kp => ?_
      rw [preSum_eq, List.take_of_length_le (by simp), hn]
      rw [Int.zero_add] at hQ
      exact ⟨.int ns.sum, H, I.kept (t' := tk) kp, ⟨t', rfl⟩, hQ _ _ (PRo.data rfl)⟩
  | _ => cases e
end
end Rf
/-! Rf18: the least, the greatest, sorted. -/
namespace Rf
open PySem PySem.Spec PyProof.Rows L2 PySem.W
mutual
theorem toP_inj : ∀ (a b : D), nfl a = true → nfl b = true → toP a = toP b → a = b
  | .non, b, h1, h2, e => by cases b <;> first | rfl | cases e | (simp [nfl] at h2)
  | .bl x, b, h1, h2, e => by cases b <;> first | (cases e; rfl) | cases e | (simp [nfl] at h2)
  | .int x, b, h1, h2, e => by cases b <;> first | (cases e; rfl) | cases e | (simp [nfl] at h2)
  | .str x, b, h1, h2, e => by
    cases b with
    | str y => simp only [toP] at e; injection e with e; injection e with e; have e2 := congrArg Array.toList e; simp at e2; rw [e2]
    | _ => first | cases e | (simp [nfl] at h2)
  | .tup k xs, b, h1, h2, e => by
    cases b with
    | tup q ys =>
      simp only [toP] at e
      injection e with e
      simp only [nfl, Bool.and_eq_true] at h1 h2
      have := toPs_inj xs ys h1.2 h2.2 e
      subst this
      cases k with
      | true => exact absurd h1.1 (by decide)
      | false =>
        cases q with
        | true => exact absurd h2.1 (by decide)
        | false => rfl
    | _ => first | cases e | (simp [nfl] at h2)
  | .lst xs, b, h1, h2, e => by
    cases b with
    | lst ys =>
      simp only [toP] at e
      injection e with e
      simp only [nfl] at h1 h2
      rw [toPs_inj xs ys h1 h2 e]
    | _ => first | cases e | (simp [nfl] at h2)
  | .dct _ _, b, h1, h2, e => by simp [nfl] at h1
theorem toPs_inj : ∀ (a b : List D), nfls a = true → nfls b = true → toPs a = toPs b → a = b
  | [], b, h1, h2, e => by cases b with | nil => rfl | cons _ _ => cases e
  | x :: xs, b, h1, h2, e => by
    cases b with
    | nil => cases e
    | cons y ys =>
      simp only [toPs] at e
      injection e with e1 e2
      simp only [nfls, Bool.and_eq_true] at h1 h2
      rw [toP_inj x y h1.1 h2.1 e1, toPs_inj xs ys h1.2 h2.2 e2]
end
theorem nfls_all {ds : List D} : nfls ds = true ↔ ∀ d ∈ ds, nfl d = true := by
  induction ds with
  | nil => simp [nfls]
  | cons d ds ih => rw [nfls, Bool.and_eq_true, ih]; simp
theorem okNs_all {ds : List D} {n : Nat} : okNs ds n = true ↔ ∀ d ∈ ds, okN d n = true := by
  induction ds with
  | nil => simp [okNs]
  | cons d ds ih => rw [okNs, Bool.and_eq_true, ih]; simp
structure AK (ds : List D) : Prop where
  ok : okNs ds 60 = true
  nf : nfls ds = true
  al : ∀ x ∈ ds, ∀ y ∈ ds, alk x y = true
  nn : ∀ x ∈ ds, isNon x = false
theorem alkP_all : ∀ {ds : List D}, alkP ds = true → ∀ x ∈ ds, ∀ y ∈ ds, alk x y = true
  | [], _, x, hx, _, _ => by cases hx
  | a :: r, h, x, hx, y, hy => by
    rw [alkP, Bool.and_eq_true, Bool.and_eq_true, List.all_eq_true] at h
    obtain ⟨⟨h1, h2⟩, h3⟩ := h
    rcases List.mem_cons.mp hx with e | hx
    · rw [e]
      rcases List.mem_cons.mp hy with e2 | hy
      · rw [e2]; exact h1
      · have := h2 y hy
        rw [Bool.and_eq_true] at this
        exact this.1
    · rcases List.mem_cons.mp hy with e2 | hy
      · rw [e2]
        have := h2 x hx
        rw [Bool.and_eq_true] at this
        exact this.2
      · exact alkP_all h3 x hx y hy
theorem alks_ints : ∀ {xs ys : List D}, xs.all isI = true → ys.all isI = true → alks xs ys = true
  | [], _, _, _ => rfl
  | _ :: _, [], _, _ => rfl
  | x :: xs, y :: ys, h1, h2 => by
    rw [List.all_cons, Bool.and_eq_true] at h1 h2
    cases x <;> first | (simp [isI] at h1; done) | skip
    cases y <;> first | (simp [isI] at h2; done) | skip
    simp only [alks, alk, Bool.true_and]
    exact alks_ints h1.2 h2.2
theorem alkAll_ok {ds : List D} (h : alkAll ds = true) : AK ds := by
  unfold alkAll at h
  rw [Bool.or_eq_true, Bool.or_eq_true] at h
  rcases h with (h | h) | h
  · rw [List.all_eq_true] at h
    refine ⟨okNs_all.mpr fun d hd => ?_, nfls_all.mpr fun d hd => ?_, fun x hx y hy => ?_, fun x hx => ?_⟩
    · have := h d hd; cases d <;> first | rfl | cases this
    · have := h d hd; cases d <;> first | rfl | cases this
    · have h1 := h x hx; have h2 := h y hy
      cases x <;> first | (cases h1; done) | (cases y <;> first | rfl | cases h2)
    · have := h x hx; cases x <;> first | rfl | cases this
  · rw [List.all_eq_true] at h
    have tk : ∀ d ∈ ds, ∃ es : List D, d = .tup false es ∧ es.all isI = true := fun d hd => by
      have := h d hd
      cases d with
      | tup k es =>
        cases k with
        | false => exact ⟨es, rfl, this⟩
        | true => cases this
      | _ => cases this
    refine ⟨okNs_all.mpr fun d hd => ?_, nfls_all.mpr fun d hd => ?_, fun x hx y hy => ?_, fun x hx => ?_⟩
    · obtain ⟨es, rfl, he⟩ := tk d hd
      rw [List.all_eq_true] at he
      simp only [okN]
      exact okNs_all.mpr fun e hm => by have := he e hm; cases e <;> first | rfl | cases this
    · obtain ⟨es, rfl, he⟩ := tk d hd
      rw [List.all_eq_true] at he
      simp only [nfl, Bool.not_false, Bool.true_and]
      exact nfls_all.mpr fun e hm => by have := he e hm; cases e <;> first | rfl | cases this
    · obtain ⟨es, rfl, he⟩ := tk x hx
      obtain ⟨fs, rfl, hf⟩ := tk y hy
      simp only [alk]
      exact alks_ints he hf
    · obtain ⟨es, rfl, he⟩ := tk x hx
      rfl
  · rw [Bool.and_eq_true, Bool.and_eq_true, Bool.and_eq_true, List.all_eq_true] at h
    obtain ⟨⟨⟨h1, h2⟩, h3⟩, h4⟩ := h
    exact ⟨h1, h2, alkP_all h3, fun x hx => by simpa using h4 x hx⟩
theorem mem_toPs {p : PyData} {ds : List D} : p ∈ toPs ds ↔ ∃ d ∈ ds, toP d = p := by
  rw [toPs_map, List.mem_map]
theorem AK.alike {ds : List D} (h : AK ds) : AlikeAll (toPs ds) := by
  refine ⟨fun x hx y hy => ?_, fun x hx => ?_⟩
  · obtain ⟨a, ha, rfl⟩ := mem_toPs.mp hx
    obtain ⟨b, hb, rfl⟩ := mem_toPs.mp hy
    rw [← alk_eq]
    exact h.al a ha b hb
  · obtain ⟨a, ha, rfl⟩ := mem_toPs.mp hx
    exact isNon_ne (h.nn a ha)
theorem minL_eq : ∀ (ds : List D) (a : D), (∀ x ∈ a :: ds, ∀ y ∈ a :: ds, alk x y = true) → toP (minL a ds) = PySem.W.minD (toP a) (toPs ds) ∧ minL a ds ∈ a :: ds
  | [], a, h => ⟨rfl, List.mem_cons_self ..⟩
  | b :: r, a, h => by
    have hd := dlt_eq b a (h b (by simp) a (by simp))
    have e : PySem.W.minD (toP a) (toPs (b :: r)) = PySem.W.minD (if dataLt (toP b) (toP a) = true then toP b else toP a) (toPs r) := by
      simp only [toPs, PySem.W.minD, List.foldl_cons]
    rw [e, ← hd, minL]
    cases q : dlt b a with
    | true =>
      rw [if_pos rfl]
      obtain ⟨h1, h2⟩ := minL_eq r b fun x hx y hy => h x (List.mem_cons_of_mem _ hx) y (List.mem_cons_of_mem _ hy)
      exact ⟨h1, List.mem_cons_of_mem _ h2⟩
    | false =>
      rw [if_neg (by decide)]
      have sub : ∀ x ∈ a :: r, x ∈ a :: b :: r := fun x hx => by
        rcases List.mem_cons.mp hx with e | hx
        · rw [e]; simp
        · simp [hx]
      obtain ⟨h1, h2⟩ := minL_eq r a fun x hx y hy => h x (sub x hx) y (sub y hy)
      exact ⟨h1, sub _ h2⟩
theorem maxL_eq : ∀ (ds : List D) (a : D), (∀ x ∈ a :: ds, ∀ y ∈ a :: ds, alk x y = true) → toP (maxL a ds) = PySem.W.maxD (toP a) (toPs ds) ∧ maxL a ds ∈ a :: ds
  | [], a, h => ⟨rfl, List.mem_cons_self ..⟩
  | b :: r, a, h => by
    have hd := dlt_eq a b (h a (by simp) b (by simp))
    have e : PySem.W.maxD (toP a) (toPs (b :: r)) = PySem.W.maxD (if dataLt (toP a) (toP b) = true then toP b else toP a) (toPs r) := by
      simp only [toPs, PySem.W.maxD, List.foldl_cons]
    rw [e, ← hd, maxL]
    cases q : dlt a b with
    | true =>
      rw [if_pos rfl]
      obtain ⟨h1, h2⟩ := maxL_eq r b fun x hx y hy => h x (List.mem_cons_of_mem _ hx) y (List.mem_cons_of_mem _ hy)
      exact ⟨h1, List.mem_cons_of_mem _ h2⟩
    | false =>
      rw [if_neg (by decide)]
      have sub : ∀ x ∈ a :: r, x ∈ a :: b :: r := fun x hx => by
        rcases List.mem_cons.mp hx with e | hx
        · rw [e]; simp
        · simp [hx]
      obtain ⟨h1, h2⟩ := maxL_eq r a fun x hx y hy => h x (sub x hx) y (sub y hy)
      exact ⟨h1, sub _ h2⟩
theorem RDs.at {F : Hp} : ∀ {ds : List D} {vs : List V} {i : Nat} {v : V}, RDs F ds vs → vs[i]? = some v → ∃ d ∈ ds, RD F d v
  | [], vs, i, v, h, e => by cases h; simp at e
  | d :: ds, vs, 0, v, h, e => by
    obtain ⟨u, r, rfl, h1, h2⟩ := h
    simp at e
    subst e
    exact ⟨d, by simp, h1⟩
  | d :: ds, vs, i + 1, v, h, e => by
    obtain ⟨u, r, rfl, h1, h2⟩ := h
    obtain ⟨x, hx, hr⟩ := RDs.at (i := i) h2 (by simpa using e)
    exact ⟨x, List.mem_cons_of_mem _ hx, hr⟩
theorem Vals.back {xs : List V} {us : List Value} {i : Nat} {u : Value} (h : Vals xs us) (e : us[i]? = some u) : ∃ x, xs[i]? = some x ∧ RelV x u := by
  have hl := h.length
  have hi : i < xs.length := by rw [hl]; exact (List.getElem?_eq_some_iff.mp e).1
  obtain ⟨w, hw, r⟩ := h.get (List.getElem?_eq_getElem hi)
  rw [e] at hw
  cases hw
  exact ⟨xs[i], List.getElem?_eq_getElem hi, r⟩
section
variable {X : Cx}
/-- the item that is told is the one that is meant -/
theorem best_item {F H : Hp} {ds : List D} {vs : List V} {us : List Value} {pins : List (Addr × Obj)} {σ : L2.St} {s s' : Shared} {best : D} {i : Nat} {u : Value} {bs : List Addr} (ak : AK ds) (l : Le F H) (I : Inv X pins σ H s') (hr : RDs F ds vs) (rv : Vals vs us)
    (hb : best ∈ ds) (hi : us[i]? = some u) (rd : Reads s'.heap u (toP best) bs) : ∃ v, RelV v u ∧ RD F best v := by
  obtain ⟨v, hv, ru⟩ := Vals.back rv hi
  obtain ⟨d, hd, hrd⟩ := hr.at hv
  obtain ⟨as, r1⟩ := reads I l (okNs_all.mp ak.ok d hd) hrd ru
  have e := SeqAt.plain_unique _ _ _ _ _ (okN_ok _ _ (okNs_all.mp ak.ok d hd)).1 r1 rd
  have := toP_inj d best (nfls_all.mp ak.nf d hd) (nfls_all.mp ak.nf best hb) e
  subst this
  exact ⟨v, ru, hrd⟩
theorem seqD_inv {d : D} {ds : List D} (h : seqD d = some ds) : d = .lst ds ∨ ∃ k, d = .tup k ds := by
  cases d with
  | lst es => cases h; exact .inl rfl
  | tup k es => cases h; exact .inr ⟨k, rfl⟩
  | _ => cases h
theorem pr_min1 (hc : X.calm = true) (hu : X.A.units + 100 < cLine) : CallR X (.builtin "min") (rU1 pMin1) := by
  intro pins s σ H xs us Q I r ⟨F, v, d, res, ev, l, h, e, hQ⟩
  subst ev
  unfold pMin1 at e
  cases hs : seqD d with
  | none => rw [hs] at e; cases e
  | some ds =>
    rw [hs] at e
    cases ds with
    | nil => cases e
    | cons a ds =>
      have e : (match alkAll (a :: ds) with | true => some (PR.d (minL a ds)) | false => none) = some res := e
      cases ha : alkAll (a :: ds) with
      | false => rw [ha] at e; cases e
      | true =>
        rw [ha] at e
        cases e
        have ak := alkAll_ok ha
        obtain ⟨m1, m2⟩ := minL_eq ds a ak.al
        have dp := (okNs_ok _ _ ak.ok).2
        rcases seqD_inv hs with rfl | ⟨k, rfl⟩
        · obtain ⟨pa, vs, rfl, h1, h2⟩ := lst_at h
          obtain ⟨its, rv, ht, hz⟩ := I.list (SqL.of (K := X.K) h1)
          obtain ⟨as, hr⟩ := readsAll I l ak.ok h2 rv
          rw [ref1 r]
          refine min_list_data (I.ok.hd hc) ht.isList hr ak.alike (by show X.A.units + 1 + PyData.depthAll (toPs (a :: ds)) < cLine; omega) fun i u h' tk bs hi rd kp => ?_
          have I' : Inv X pins σ H { s with heap := h', toks := tk } := I.kept (t' := tk) kp
          obtain ⟨w, rw', hw⟩ := best_item (s := s) ak l I' h2 rv m2 (by simpa using hi) (by rw [m1]; exact rd)
          exact ⟨w, H, I', rw', hQ _ _ (PRo.data hw)⟩
        · obtain ⟨pa, vs, rfl, h1, h2⟩ := tup_at h
          obtain ⟨its, rv, ht, hz⟩ := I.tuple (h1.sq l (K := X.K))
          obtain ⟨as, hr⟩ := readsAll I l ak.ok h2 rv
          rw [ref1 r]
          refine min_tuple_data (I.ok.hd hc) ht hr ak.alike (by show X.A.units + 1 + PyData.depthAll (toPs (a :: ds)) < cLine; omega) fun i u h' tk bs hi rd kp => ?_
          have I' : Inv X pins σ H { s with heap := h', toks := tk } := I.kept (t' := tk) kp
          obtain ⟨w, rw', hw⟩ := best_item (s := s) ak l I' h2 rv m2 (by simpa using hi) (by rw [m1]; exact rd)
          exact ⟨w, H, I', rw', hQ _ _ (PRo.data hw)⟩
theorem pr_max1 (hc : X.calm = true) (hu : X.A.units + 100 < cLine) : CallR X (.builtin "max") (rU1 pMax1) := by
  intro pins s σ H xs us Q I r ⟨F, v, d, res, ev, l, h, e, hQ⟩
  subst ev
  unfold pMax1 at e
  cases hs : seqD d with
  | none => rw [hs] at e; cases e
  | some ds =>
    rw [hs] at e
    cases ds with
    | nil => cases e
    | cons a ds =>
      have e : (match alkAll (a :: ds) with | true => some (PR.d (maxL a ds)) | false => none) = some res := e
      cases ha : alkAll (a :: ds) with
      | false => rw [ha] at e; cases e
      | true =>
        rw [ha] at e
        cases e
        have ak := alkAll_ok ha
        obtain ⟨m1, m2⟩ := maxL_eq ds a ak.al
        have dp := (okNs_ok _ _ ak.ok).2
        rcases seqD_inv hs with rfl | ⟨k, rfl⟩
        · obtain ⟨pa, vs, rfl, h1, h2⟩ := lst_at h
          obtain ⟨its, rv, ht, hz⟩ := I.list (SqL.of (K := X.K) h1)
          obtain ⟨as, hr⟩ := readsAll I l ak.ok h2 rv
          rw [ref1 r]
          refine max_list_data (I.ok.hd hc) ht.isList hr ak.alike (by show X.A.units + 1 + PyData.depthAll (toPs (a :: ds)) < cLine; omega) fun i u h' tk bs hi rd kp => ?_
          have I' : Inv X pins σ H { s with heap := h', toks := tk } := I.kept (t' := tk) kp
          obtain ⟨w, rw', hw⟩ := best_item (s := s) ak l I' h2 rv m2 (by simpa using hi) (by rw [m1]; exact rd)
          exact ⟨w, H, I', rw', hQ _ _ (PRo.data hw)⟩
        · obtain ⟨pa, vs, rfl, h1, h2⟩ := tup_at h
          obtain ⟨its, rv, ht, hz⟩ := I.tuple (h1.sq l (K := X.K))
          obtain ⟨as, hr⟩ := readsAll I l ak.ok h2 rv
          rw [ref1 r]
          refine max_tuple_data (I.ok.hd hc) ht hr ak.alike (by show X.A.units + 1 + PyData.depthAll (toPs (a :: ds)) < cLine; omega) fun i u h' tk bs hi rd kp => ?_
          have I' : Inv X pins σ H { s with heap := h', toks := tk } := I.kept (t' := tk) kp
          obtain ⟨w, rw', hw⟩ := best_item (s := s) ak l I' h2 rv m2 (by simpa using hi) (by rw [m1]; exact rd)
          exact ⟨w, H, I', rw', hQ _ _ (PRo.data hw)⟩
end
end Rf
/-! Rf19: sorted, tuple, list, gcd, isinstance; two to choose from. -/
namespace Rf
open PySem PySem.Spec PyProof.Rows L2 PySem.W
def leD (a b : D) : Bool := !dataLt (toP b) (toP a)
theorem leD_eq : dataLe (β := D) false toP = leD := rfl
theorem leD_total : TotalLe leD := sortLe_total (PyProof.Rows.listOrd itemOrd) false fun b : D => keyToks (toP b)
theorem leD_tot (a b : D) : (leD a b || leD b a) = true := by
  rw [Bool.or_eq_true]
  exact leD_total.total a b
theorem insD_eq {x : D} : ∀ {l₁ l₂ : List D}, (∀ b ∈ l₁ ++ l₂, alk b x = true) → (∀ b ∈ l₁, (!leD x b) = true) → (∀ b ∈ l₂, leD x b = true) → insD x (l₁ ++ l₂) = l₁ ++ x :: l₂
  | [], [], _, _, _ => rfl
  | [], b :: l₂, ha, _, h2 => by
    have := h2 b (by simp)
    have e : dlt b x = false := by
      rw [dlt_eq b x (ha b (by simp))]
      unfold leD at this
      simpa using this
    show (match dlt b x with | false => x :: b :: l₂ | true => b :: insD x l₂) = _
    rw [e]
    rfl
  | a :: l₁, l₂, ha, h1, h2 => by
    have := h1 a (by simp)
    have e : dlt a x = true := by
      rw [dlt_eq a x (ha a (by simp))]
      unfold leD at this
      simpa using this
    show (match dlt a x with | false => x :: a :: (l₁ ++ l₂) | true => a :: insD x (l₁ ++ l₂)) = _
    rw [e]
    show a :: insD x (l₁ ++ l₂) = _
    rw [insD_eq (fun b hb => ha b (List.mem_cons_of_mem _ hb)) (fun b hb => h1 b (List.mem_cons_of_mem _ hb)) h2]
    rfl
theorem sortD_eq : ∀ ds : List D, (∀ x ∈ ds, ∀ y ∈ ds, alk x y = true) → sortD ds = ds.mergeSort leD
  | [], _ => by simp [sortD]
  | x :: ds, h => by
    have ih := sortD_eq ds fun a ha b hb => h a (List.mem_cons_of_mem _ ha) b (List.mem_cons_of_mem _ hb)
    obtain ⟨l₁, l₂, h1, h2, h3⟩ := List.mergeSort_cons (le := leD) leD_total.trans leD_tot x ds
    rw [sortD, ih, h1, h2]
    have pw := List.pairwise_mergeSort (le := leD) leD_total.trans leD_tot (x :: ds)
    rw [h1] at pw
    refine insD_eq (fun b hb => ?_) h3 fun b hb => ?_
    · have : b ∈ ds.mergeSort leD := by rw [h2]; exact hb
      exact h b (List.mem_cons_of_mem _ (List.mem_mergeSort.mp this)) x (by simp)
    · exact (List.pairwise_cons.mp (List.pairwise_append.mp pw).2.1).1 b hb
theorem zip_fst {α β : Type} : ∀ {xs : List α} {ys : List β}, ys.length = xs.length → (xs.zip ys).map Prod.fst = xs
  | [], _, _ => by simp
  | x :: xs, [], h => by cases h
  | x :: xs, y :: ys, h => by simp [zip_fst (xs := xs) (ys := ys) (by simpa using h)]
theorem RDs.zip {F : Hp} : ∀ {ds : List D} {vs : List V}, RDs F ds vs → ∀ p ∈ ds.zip vs, RD F p.1 p.2
  | [], vs, h, p, hp => by cases hp
  | d :: ds, vs, h, p, hp => by
    obtain ⟨v, r, rfl, h1, h2⟩ := h
    rcases List.mem_cons.mp hp with rfl | hp
    · exact h1
    · exact RDs.zip h2 p hp
theorem RDs.of_pairs {F : Hp} : ∀ {ps : List (D × V)}, (∀ p ∈ ps, RD F p.1 p.2) → RDs F (ps.map (·.1)) (ps.map (·.2))
  | [], _ => rfl
  | p :: ps, h => RDs.cons (h p (by simp)) (RDs.of_pairs fun q hq => h q (List.mem_cons_of_mem _ hq))
theorem each_zip {α : Type} : ∀ {ds : List α} {vs : List V} {us : List Value}, ds.length = vs.length → Vals vs us → EachIs (fun u (p : α × V) => RelV p.2 u) us (ds.zip vs)
  | [], [], _, _, .nil => .nil
  | [], _ :: _, _, h, _ => by cases h
  | _ :: _, [], _, h, _ => by cases h
  | d :: ds, v :: vs, _, h, .cons r t => .cons r (each_zip (by simpa using h) t)
theorem each_vals {α : Type} : ∀ {us : List Value} {ps : List (α × V)}, EachIs (fun u (p : α × V) => RelV p.2 u) us ps → Vals (ps.map (·.2)) us
  | _, _, .nil => .nil
  | _, _, .cons h t => .cons h (each_vals t)
theorem each_reads {X : Cx} {pins : List (Addr × Obj)} {σ : L2.St} {H F : Hp} {s : Shared} (I : Inv X pins σ H s) (l : Le F H) : ∀ {ps : List (D × V)} {us : List Value}, (∀ p ∈ ps, RD F p.1 p.2 ∧ okN p.1 60 = true) → EachIs (fun u (p : D × V) => RelV p.2 u) us ps →
    EachIs (fun u (p : D × V) => ∃ as, Reads s.heap u (toP p.1) as) us ps
  | _, _, _, .nil => .nil
  | _, _, h, .cons r t => .cons (reads I l (h _ (by simp)).2 (h _ (by simp)).1 r) (each_reads I l (fun p hp => h p (List.mem_cons_of_mem _ hp)) t)
section
variable {prog : Program} {w : World} {A : Around} {E : Value → Shared → Prop} {s : Shared}
/-- a tuple's items, collected (as PyProof.Rows.collect_list does for a list) -/
theorem collect_tup {l : Addr} {vs : List Value} {Q : List Value → Shared → Prop} (hl : s.heap.IsTuple l vs.toArray)
    (h : Q vs { s with heap := (s.heap.push (seqObj "list" #[] 0)).update s.heap.objs.size (Obj.mapSeq (· ++ vs.toArray)) }) (hsz : vs.length ≤ sizeLine) :
    wpAny (model prog w) A (collect (.ref l)) Q E s := by
  obtain ⟨o, ho, hc, n, hd⟩ := id hl
  unfold collect
  refine wpAny_bind (wpAny_runValue (codeAny_builtin entry_proto_collect' ?_))
  show wpAny _ _ (do again (.builtin "list.__iadd__" ⟨[← newList [], .ref l], []⟩)) _ _ s
  refine wpAny_bind (wpAny_newList (wpAny_pure ⟨Code.quiet_builtin _ (by decide +kernel), codeAny_builtin entry_list_iadd' ?_⟩))
  show wpAny _ _ (Builtin.List.listExtendWith (.ref s.heap.objs.size) (.ref l) (.ref s.heap.objs.size)) _ _ { s with heap := s.heap.push (seqObj "list" #[] 0) }
  unfold Builtin.List.listExtendWith
  have ho' : (s.heap.push (seqObj "list" #[] 0)).get? l = some o := Heap.get?_push_of_some _ ho
  refine wpAny_bind (wpAny_typeOf (T := "tuple") ⟨o, ho', hc⟩ ?_)
  have ht : (Value.type "tuple" == Value.type "tuple") = true := by rfl
  rw [if_pos (by rw [ht]; simp)]
  refine wpAny_bind (listItems_at ho' hd ?_)
  refine wpAny_bind (listItems_at (xs := #[]) (n := 0) (Heap.get?_push_size _ rfl) rfl ?_)
  rw [if_neg (by simp)]
  refine wpAny_bind (listUpdate_at (xs := #[]) (n := 0) (Heap.get?_push_size _ rfl) rfl ?_ (Nat.zero_le _) (by show (#[] ++ vs.toArray).size ≤ sizeLine + 1; simp only [Array.size_append, List.size_toArray, List.length_nil]; omega))
  refine wpAny_pure ?_
  show wpAny (model prog w) A (do
      let o ← load s.heap.objs.size
      match o.data with
      | .seq xs _ => pure xs.toList
      | _ => unsupported "internal:collect") Q E { s with heap := (s.heap.push (seqObj "list" #[] 0)).update s.heap.objs.size (Obj.mapSeq (· ++ vs.toArray)) }
  refine wpAny_bind (wpAny_load (get?_update_seq (Heap.get?_push_size _ rfl) _) ?_)
  show wpAny _ _ (pure ((#[] : Array Value) ++ vs.toArray).toList) Q E _
  rw [show ((#[] : Array Value) ++ vs.toArray).toList = vs by simp]
  exact wpAny_pure h
theorem sorted_of_sortT {l : Addr} {vs : List Value} {kw : List (Str × Value)} {Q : Value → Shared → Prop} (hl : s.heap.IsTuple l vs.toArray) (hL : vs.length ≤ sizeLine) (ha1 : argsOk "sorted" ⟨[.ref l], kw⟩) (ha2 : ∀ x, argsOk "list.sort" ⟨[.ref x], kw⟩)
    (body : ∀ E' : Value → Shared → Prop, wpAny (model prog w) A.in1.in1 (Builtin.«list.sort» ⟨[.ref (s.heap.objs.size + 1)], kw⟩) (fun f s' => f = .done (.ret .none) ∧ Q (.ref (s.heap.objs.size + 1)) s') E' { s with heap := copyHeap s.heap vs }) :
    wpAny (model prog w) A (call (.builtin "sorted") [.ref l] kw) Q E s := by
  refine call_function_entry_kw kind_sorted plain_sorted entry_sorted ha1 ?_
  unfold Builtin.«sorted»
  refine wpAny_bind (m := checkCount "sorted" 1 1 _) (wpAny_pure ?_)
  refine wpAny_bind (collect_tup hl ?_ hL)
  refine wpAny_bind (wpAny_newList ?_ hL)
  have hsz : ((s.heap.push (seqObj "list" #[] 0)).update s.heap.objs.size (Obj.mapSeq (· ++ vs.toArray))).objs.size = s.heap.objs.size + 1 := by
    rw [Heap.size_update, Heap.size_push]
  show wpAny _ _ _ _ _ { s with heap := copyHeap s.heap vs }
  rw [hsz]
  refine wpAny_bind (wpAny_holding (wpAny_call_entry_kw slot_list_sort ⟨_, copyHeap_at s.heap vs, rfl⟩ entry_list_sort ?body (ha2 _)))
  case body =>
    show wpAny (model prog w) A.in1.in1 (Builtin.«list.sort» ⟨[.ref (s.heap.objs.size + 1)], kw⟩) _ _ _
    refine wpAny_mono (body _) (fun f s' hf => ?_) fun _ _ e => e
    obtain ⟨rfl, hq⟩ := hf
    exact ⟨_, rfl, wpAny_pure ⟨_, rfl, hq⟩⟩
theorem sortedT_data {β : Type} {R : Value → β → Prop} {enc : β → PyData} {vs : List Value} {bs : List β} {l : Addr} {Q : Value → Shared → Prop} (hl : s.heap.IsTuple l vs.toArray) (e : EachIs R vs bs) (er : EachIs (fun v b => ∃ as, Reads s.heap v (enc b) as) vs bs) (hal : AllAlike (bs.map enc)) (hk : Sortable (bs.map enc)) (hL : bs.length ≤ sizeLine)
    (hu : ∀ b, b ∈ bs → A.units + 2 + (enc b).depth < cLine) (h : ∀ out, out.length = bs.length → EachIs R out (bs.mergeSort (dataLe false enc)) → Q (.ref (s.heap.objs.size + 1)) { s with heap := sortedAll s.heap vs (List.toArray out) }) :
    wpAny (model prog w) A (call (.builtin "sorted") [.ref l]) Q E s := by
  have er' : EachIs (fun v b => ∃ as, Reads (sortingHeap (copyHeap s.heap vs) (s.heap.objs.size + 1) vs) v (enc b) as) vs bs := er.mono fun _ _ ⟨as, r⟩ => ⟨as, PyProof.Rows.Reads.keeps (fun _ _ => sorting_copy_old) r⟩
  have hv : vs.length ≤ sizeLine := by rw [e.length]; exact hL
  exact sorted_of_sortT hl hv (args_sorted1 _) (fun _ => args_list_sort _) fun _ => list_sort_vals (s := { s with heap := copyHeap s.heap vs }) (copyHeap_at s.heap vs)
    (SortsAt.data (s := { s with heap := sortingHeap (copyHeap s.heap vs) (s.heap.objs.size + 1) vs }) (each_map (R := fun v d => ∃ as, Reads (sortingHeap (copyHeap s.heap vs) (s.heap.objs.size + 1) vs) v d as) enc er') hal hk (bound_map hu)) hv
    ⟨rfl, h _ (by rw [sortVals_length false rfl]; exact e.length) (sortVals_data false e er' hal)⟩
end
section
variable {X : Cx}
theorem sortOk_ok {ds : List D} (h : sortOk ds = true) : AK ds ∧ ds.length ≤ 100000 ∧ Sortable (toPs ds) := by
  unfold sortOk at h
  rw [Bool.and_eq_true, Bool.and_eq_true, Bool.or_eq_true, List.all_eq_true, List.all_eq_true] at h
  obtain ⟨⟨h1, h2⟩, h3⟩ := h
  have ak := alkAll_ok h2
  refine ⟨ak, Nat.le_of_ble_eq_true h1, ?_⟩
  rcases h3 with h3 | h3
  · refine .inl fun d hd => ?_
    obtain ⟨a, ha, rfl⟩ := mem_toPs.mp hd
    have := h3 a ha
    match a, this with
    | .tup k (x :: r), _ => exact ⟨toP x, toPs r, by simp [toP, toPs]⟩
  · refine .inr fun d hd => ?_
    obtain ⟨a, ha, rfl⟩ := mem_toPs.mp hd
    have q := h3 a ha
    refine ⟨isNon_ne (ak.nn a ha), fun xs e => ?_⟩
    cases a <;> first | (simp [isTupA] at q; done) | (simp [toP] at e)
theorem sort_core {F H : Hp} {ds : List D} {vs : List V} {us : List Value} {pins : List (Addr × Obj)} {σ : L2.St} {s : Shared} {out : List Value} {Q : VK} (ok : sortOk ds = true) (l : Le F H) (I : Inv X pins σ H s) (hr : RDs F ds vs) (rv : Vals vs us)
    (hlen : out.length = (ds.zip vs).length) (eo : EachIs (fun u (p : D × V) => RelV p.2 u) out ((ds.zip vs).mergeSort (dataLe false fun p : D × V => toP p.1))) (hQ : ∀ v H', PRo F H (.fresh (sortD ds)) v H' → Q v H') :
    EP X pins σ Q (.ref (s.heap.objs.size + 1)) { s with heap := sortedAll s.heap us (List.toArray out) } := by
  obtain ⟨ak, hz, _⟩ := sortOk_ok ok
  have hl := hr.length
  generalize hm : (ds.zip vs).mergeSort (dataLe false fun p : D × V => toP p.1) = ms at eo
  have hfst : ms.map (·.1) = sortD ds := by
    rw [sortD_eq ds ak.al, ← hm]
    have q := List.map_mergeSort (r := dataLe false fun p : D × V => toP p.1) (s := leD) (f := Prod.fst) (l := ds.zip vs) fun a _ b _ => rfl
    rw [zip_fst hl] at q
    exact q
  have hmem : ∀ p ∈ ms, RD F p.1 p.2 := fun p hp => hr.zip p (List.mem_mergeSort.mp (by rw [hm]; exact hp))
  have hrds : RDs F (sortD ds) (ms.map (·.2)) := by
    rw [← hfst]
    exact RDs.of_pairs hmem
  have rvo := each_vals eo
  obtain ⟨ep, he'⟩ := PyProof.Rows.sortedAll_at s.heap us out.toArray
  have hp : H (s.heap.objs.size + 1) = none := I.hok.fresh (Nat.le_succ _)
  have hlm : (ms.map (·.2)).length ≤ sizeLine := by
    rw [rvo.length, hlen, List.length_zip, sizeLine_eq]
    omega
  exact ⟨.ref _, upd H (s.heap.objs.size + 1) (.lst (ms.map (·.2))), I.laid (t' := s.toks) (fun _ _ => PyProof.Rows.sortedAll_old) (Nat.le_succ _) ⟨hlm, out, ep, rvo, he'⟩, rfl, hQ _ _ ⟨_, _, hp, rfl, rfl, hrds⟩⟩
theorem pr_sorted (hc : X.calm = true) (hu : X.A.units + 100 < cLine) : CallR X (.builtin "sorted") (rU1 pSorted) := by
  intro pins s σ H xs us Q I r ⟨F, v, d, res, ev, l, h, e, hQ⟩
  subst ev
  unfold pSorted at e
  cases hs : seqD d with
  | none => rw [hs] at e; cases e
  | some ds =>
    rw [hs] at e
    have e : (match sortOk ds with | true => some (PR.fresh (sortD ds)) | false => none) = some res := e
    cases ok : sortOk ds with
    | false => rw [ok] at e; cases e
    | true =>
      rw [ok] at e
      cases e
      obtain ⟨ak, hz, so⟩ := sortOk_ok ok
      have big : (100000 : Nat) ≤ sizeLine := by rw [sizeLine_eq]; decide
      have fin : ∀ (vs : List V) (its : List Value), RDs F ds vs → Vals vs its → (EachIs (fun u (p : D × V) => RelV p.2 u) its (ds.zip vs)) ∧ EachIs (fun u (p : D × V) => ∃ as, Reads s.heap u (toP p.1) as) its (ds.zip vs) ∧ AllAlike ((ds.zip vs).map fun p : D × V => toP p.1) ∧ Sortable ((ds.zip vs).map fun p : D × V => toP p.1) ∧ (ds.zip vs).length ≤ sizeLine ∧ ∀ b, b ∈ ds.zip vs → X.A.units + 2 + (toP b.1).depth < cLine := fun vs its hr rv => by
        have hl := hr.length
        have e1 := each_zip (ds := ds) hl.symm rv
        have mp : (ds.zip vs).map (fun p : D × V => toP p.1) = toPs ds := by
          rw [toPs_map, ← zip_fst (xs := ds) hl, List.map_map]
          rw [zip_fst hl]
          rfl
        refine ⟨e1, each_reads I l (fun p hp => ⟨hr.zip p hp, okNs_all.mp ak.ok _ (List.of_mem_zip hp).1⟩) e1, ?_, ?_, ?_, fun b hb => ?_⟩
        · rw [mp]
          exact fun x hx y hy => ak.alike.1 x hx y hy
        · rw [mp]; exact so
        · rw [List.length_zip]; omega
        · have := (okN_ok _ _ (okNs_all.mp ak.ok _ (List.of_mem_zip hb).1)).2
          omega
      rcases seqD_inv hs with rfl | ⟨k, rfl⟩
      · obtain ⟨pa, vs, rfl, h1, h2⟩ := lst_at h
        obtain ⟨its, rv, ht, hz⟩ := I.list (SqL.of (K := X.K) h1)
        obtain ⟨e1, e2, e3, e4, e5, e6⟩ := fin vs its h2 rv
        rw [ref1 r]
        exact sorted_data (enc := fun p : D × V => toP p.1) ht.isList e1 e2 e3 e4 e5 e6 fun out ho eo => sort_core ok l I h2 rv ho eo hQ
      · obtain ⟨pa, vs, rfl, h1, h2⟩ := tup_at h
        obtain ⟨its, rv, ht, hz⟩ := I.tuple (h1.sq l (K := X.K))
        obtain ⟨e1, e2, e3, e4, e5, e6⟩ := fin vs its h2 rv
        rw [ref1 r]
        exact sortedT_data (enc := fun p : D × V => toP p.1) ht e1 e2 e3 e4 e5 e6 fun out ho eo => sort_core ok l I h2 rv ho eo hQ
end
end Rf
/-! Rf20: tuple, list, gcd, isinstance, all; methods. -/
namespace Rf
open PySem PySem.Spec PyProof.Rows L2 PySem.W
theorem vals2' {x y : V} {us : List Value} (r : Vals [x, y] us) : ∃ a b, us = [a, b] ∧ RelV x a ∧ RelV y b := by
  cases r with
  | cons r1 t =>
    cases t with
    | cons r2 t2 => cases t2; exact ⟨_, _, rfl, r1, r2⟩
section
variable {X : Cx}
theorem pr_tuple : CallR X (.type "tuple") (rU1 pTuple) := by
  intro pins s σ H xs us Q I r ⟨F, v, d, res, ev, l, h, e, hQ⟩
  subst ev
  cases d with
  | lst ds =>
    cases e
    obtain ⟨a, vs, rfl, h1, h2⟩ := lst_at h
    exact call_tuple_of pins s σ H _ us Q I r ⟨a, vs, rfl, .inl ⟨SqL.of h1, fun p hp => hQ _ _ (.inr ⟨ds, vs, p, rfl, hp, rfl, rfl, h2⟩)⟩⟩
  | tup k ds =>
    cases e
    obtain ⟨a, vs, rfl, h1, h2⟩ := tup_at h
    exact call_tuple_of pins s σ H _ us Q I r ⟨a, vs, rfl, .inr ⟨h1.sq l, hQ _ _ (PRo.data ⟨a, vs, rfl, h1, h2⟩)⟩⟩
  | _ => cases e
theorem pr_list : CallR X (.type "list") (rU1 pList) := by
  intro pins s σ H xs us Q I r ⟨F, v, d, res, ev, l, h, e, hQ⟩
  subst ev
  cases d with
  | lst ds =>
    cases e
    obtain ⟨a, vs, rfl, h1, h2⟩ := lst_at h
    exact call_list_of pins s σ H _ us Q I r ⟨a, vs, rfl, .inl (SqL.of h1), fun p hp => hQ _ _ ⟨vs, p, hp, rfl, rfl, h2⟩⟩
  | tup k ds =>
    cases e
    obtain ⟨a, vs, rfl, h1, h2⟩ := tup_at h
    exact call_list_of pins s σ H _ us Q I r ⟨a, vs, rfl, .inr (h1.sq l), fun p hp => hQ _ _ ⟨vs, p, hp, rfl, rfl, h2⟩⟩
  | _ => cases e
theorem pr_gcd : CallR X (.builtin "math.gcd") (rB2 pGcd) := by
  intro pins s σ H xs us Q I r ⟨F, v, u, d, c, res, ev, l, h1, h2, e, hQ⟩
  subst ev
  cases d with
  | int i =>
    cases c with
    | int j =>
      cases e; cases h1; cases h2
      exact cr_gcd pins s σ H _ us Q I r ⟨i, j, rfl, hQ _ _ (PRo.data rfl)⟩
    | _ => cases e
  | _ => cases e
/-! isinstance -/
inductive IsT where
  | int | bool | str | tuple
  deriving DecidableEq
def IsT.nm : IsT → String
  | .int => "int"
  | .bool => "bool"
  | .str => "str"
  | .tuple => "tuple"
def IsT.f : IsT → D → Bool
  | .int => isIntD
  | .bool => isBoolD
  | .str => isStrD
  | .tuple => isTupA
theorem kb (t : IsT) : kitB "NoneType" t.nm = some (t.f .non) := by cases t <;> decide +kernel
theorem kb_bl (t : IsT) (b : Bool) : kitB "bool" t.nm = some (t.f (.bl b)) := by
  have e : t.f (.bl b) = t.f (.bl true) := by cases t <;> rfl
  rw [e]
  cases t <;> decide +kernel
theorem kb_int (t : IsT) (i : Int) : kitB "int" t.nm = some (t.f (.int i)) := by
  have e : t.f (.int i) = t.f (.int 0) := by cases t <;> rfl
  rw [e]
  cases t <;> decide +kernel
theorem kb_str (t : IsT) (i : List Nat) : kitB "str" t.nm = some (t.f (.str i)) := by
  have e : t.f (.str i) = t.f (.str []) := by cases t <;> rfl
  rw [e]
  cases t <;> decide +kernel
theorem kb_tup (t : IsT) (k : Bool) (ds : List D) : kitB "tuple" t.nm = some (t.f (.tup k ds)) := by
  have e : t.f (.tup k ds) = t.f (.tup false []) := by cases t <;> rfl
  rw [e]
  cases t <;> decide +kernel
theorem kb_lst (t : IsT) (ds : List D) : kitB "list" t.nm = some (t.f (.lst ds)) := by
  have e : t.f (.lst ds) = t.f (.lst []) := by cases t <;> rfl
  rw [e]
  cases t <;> decide +kernel
def rIs (t : IsT) : List V → Hp → VK → Prop := fun vs H Q => ∃ F v d r, vs = [v, .ty t.nm] ∧ Le F H ∧ RT F H d v ∧ pIs t.f d = some r ∧ ∀ v H', PRo F H r v H' → Q v H'
theorem pr_is (t : IsT) : CallR X (.builtin "isinstance") (rIs t) := by
  intro pins s σ H xs us Q I r ⟨F, v, d, res, ev, l, h, e, hQ⟩
  subst ev
  have fin : ∀ (n : String) (b : Bool), TyX X.K H v (.type n) → kitB n t.nm = some b → res = .d (.bl b) → rIsi X.K [v, .ty t.nm] H Q := fun n b ty hk hr => by
    subst hr
    exact ⟨v, .ty t.nm, .type n, .type t.nm, b, rfl, .ty _, ty, kit_ty hk, hQ _ _ (PRo.data rfl)⟩
  refine call_isi pins s σ H _ us Q I r ?_
  cases d with
  | non => cases e; cases h; exact fin _ _ (.base .non) (kb t) rfl
  | bl b => cases e; cases h; exact fin _ _ (.base (.bl b)) (kb_bl t b) rfl
  | int i => cases e; cases h; exact fin _ _ (.base (.int i)) (kb_int t i) rfl
  | str i => cases e; cases h; exact fin _ _ (.base (.str _)) (kb_str t i) rfl
  | tup k ds =>
    cases e
    obtain ⟨a, vs, rfl, h1, h2⟩ := tup_at h
    cases k with
    | false => exact fin _ _ (.base (.tup (h1.le l))) (kb_tup t _ ds) rfl
    | true =>
      obtain ⟨o, h3, h4⟩ := h1.le l
      exact fin _ _ (.fTuple h3) (kb_tup t _ ds) rfl
  | lst ds =>
    cases e
    obtain ⟨a, vs, rfl, h1, h2⟩ := lst_at h
    exact fin _ _ (.base (.lst h1)) (kb_lst t ds) rfl
  | dct ks ws => cases e
theorem allL_ok : ∀ {ds : List D} {b : Bool}, allL ds = some b → ∃ bs : List Bool, ds = bs.map D.bl ∧ b = bs.all id
  | [], b, h => by cases h; exact ⟨[], rfl, rfl⟩
  | .bl x :: ds, b, h => by
    have h : (match allL ds with | some c => some (x && c) | none => none) = some b := h
    cases hs : allL ds with
    | none => rw [hs] at h; cases h
    | some c =>
      rw [hs] at h
      cases h
      obtain ⟨bs, h1, h2⟩ := allL_ok hs
      exact ⟨x :: bs, by rw [h1]; rfl, by rw [h2]; rfl⟩
  | .non :: _, _, h => by cases h
  | .int _ :: _, _, h => by cases h
  | .str _ :: _, _, h => by cases h
  | .tup _ _ :: _, _, h => by cases h
  | .lst _ :: _, _, h => by cases h
  | .dct _ _ :: _, _, h => by cases h
theorem anyL_ok : ∀ {ds : List D} {b : Bool}, anyL ds = some b → ∃ bs : List Bool, ds = bs.map D.bl ∧ b = bs.any id
  | [], b, h => by cases h; exact ⟨[], rfl, rfl⟩
  | .bl x :: ds, b, h => by
    have h : (match anyL ds with | some c => some (x || c) | none => none) = some b := h
    cases hs : anyL ds with
    | none => rw [hs] at h; cases h
    | some c =>
      rw [hs] at h
      cases h
      obtain ⟨bs, h1, h2⟩ := anyL_ok hs
      exact ⟨x :: bs, by rw [h1]; rfl, by rw [h2]; rfl⟩
  | .non :: _, _, h => by cases h
  | .int _ :: _, _, h => by cases h
  | .str _ :: _, _, h => by cases h
  | .tup _ _ :: _, _, h => by cases h
  | .lst _ :: _, _, h => by cases h
  | .dct _ _ :: _, _, h => by cases h
theorem RDs.bls {F : Hp} : ∀ {ns : List Bool} {vs : List V}, RDs F (ns.map D.bl) vs → vs = ns.map V.bl
  | [], vs, h => h
  | n :: ns, vs, h => by
    obtain ⟨v, r, rfl, h1, h2⟩ := h
    cases h1
    rw [RDs.bls h2]
    rfl
theorem pr_all (hc : X.calm = true) : CallR X (.builtin "all") (rU1 pAll1) := by
  intro pins s σ H xs us Q I r ⟨F, v, d, res, ev, l, h, e, hQ⟩
  subst ev
  cases d with
  | lst ds =>
    have e : (match allL ds with | some b => some (PR.d (.bl b)) | none => none) = some res := e
    cases hs : allL ds with
    | none => rw [hs] at e; cases e
    | some b =>
      rw [hs] at e
      cases e
      obtain ⟨bs, rfl, rfl⟩ := allL_ok hs
      obtain ⟨a, vs, rfl, h1, h2⟩ := lst_at h
      rw [h2.bls] at h1
      exact cr_all hc pins s σ H _ us Q I r ⟨a, bs, rfl, SqL.of h1, hQ _ _ (PRo.data rfl)⟩
  | _ => cases e
theorem pr_any (hc : X.calm = true) : CallR X (.builtin "any") (rU1 pAny1) := by
  intro pins s σ H xs us Q I r ⟨F, v, d, res, ev, l, h, e, hQ⟩
  subst ev
  cases d with
  | lst ds =>
    have e : (match anyL ds with | some b => some (PR.d (.bl b)) | none => none) = some res := e
    cases hs : anyL ds with
    | none => rw [hs] at e; cases e
    | some b =>
      rw [hs] at e
      cases e
      obtain ⟨bs, rfl, rfl⟩ := anyL_ok hs
      obtain ⟨a, vs, rfl, h1, h2⟩ := lst_at h
      rw [h2.bls] at h1
      exact cr_any hc pins s σ H _ us Q I r ⟨a, bs, rfl, SqL.of h1, hQ _ _ (PRo.data rfl)⟩
  | _ => cases e
/-! join -/
theorem joinL_ok {sep : List Nat} : ∀ {ds : List D} {t : List Nat}, joinL sep ds = some t → ∃ ys : List (List Nat), ds = ys.map D.str ∧ (Str.join ⟨sep.toArray⟩ (ys.map fun y => ⟨y.toArray⟩)) = ⟨t.toArray⟩ ∧ (ys.map (·.length)).sum + (ys.length - 1) * sep.length = t.length
  | [], t, h => by cases h; exact ⟨[], rfl, rfl, by simp⟩
  | [.str a], t, h => by cases h; exact ⟨[a], rfl, rfl, by simp⟩
  | .str a :: b :: r, t, h => by
    have h : (match joinL sep (b :: r) with | some t => some (a ++ (sep ++ t)) | none => none) = some t := h
    cases hs : joinL sep (b :: r) with
    | none => rw [hs] at h; cases h
    | some u =>
      rw [hs] at h
      cases h
      obtain ⟨ys, h1, h2, h3⟩ := joinL_ok hs
      cases ys with
      | nil => cases h1
      | cons y ys =>
        refine ⟨a :: y :: ys, by rw [h1]; rfl, ?_, ?_⟩
        · show (⟨a.toArray⟩ : Str) ++ ⟨sep.toArray⟩ ++ Str.join ⟨sep.toArray⟩ ((y :: ys).map fun y => ⟨y.toArray⟩) = _
          rw [h2]
          show (⟨a.toArray ++ sep.toArray ++ u.toArray⟩ : Str) = _
          simp
        · simp only [List.map_cons, List.sum_cons, List.length_cons, List.length_append] at h3 ⊢
          have : (ys.length + 1 + 1 - 1) * sep.length = (ys.length + 1 - 1) * sep.length + sep.length := by
            show (ys.length + 1) * sep.length = ys.length * sep.length + sep.length
            rw [Nat.succ_mul]
          omega
  | [.non], _, h => by cases h
  | [.bl _], _, h => by cases h
  | [.int _], _, h => by cases h
  | [.tup _ _], _, h => by cases h
  | [.lst _], _, h => by cases h
  | [.dct _ _], _, h => by cases h
  | .non :: _ :: _, _, h => by cases h
  | .bl _ :: _ :: _, _, h => by cases h
  | .int _ :: _ :: _, _, h => by cases h
  | .tup _ _ :: _ :: _, _, h => by cases h
  | .lst _ :: _ :: _, _, h => by cases h
  | .dct _ _ :: _ :: _, _, h => by cases h
theorem RDs.strs {F : Hp} : ∀ {ns : List (List Nat)} {vs : List V}, RDs F (ns.map D.str) vs → vs = (ns.map fun y => (⟨y.toArray⟩ : Str)).map V.str
  | [], vs, h => h
  | n :: ns, vs, h => by
    obtain ⟨v, r, rfl, h1, h2⟩ := h
    cases h1
    rw [RDs.strs h2]
    rfl
def rM1 (f : D → D → Option PR) : V → List V → Hp → VK → Prop := fun x vs H Q => ∃ F v d c r, vs = [v] ∧ Le F H ∧ RT F H d x ∧ RT F H c v ∧ f d c = some r ∧ ∀ v H', PRo F H r v H' → Q v H'
theorem pm_join : MtR X "str.join" (rM1 pJoin) := by
  intro pins s σ H x xs v us Q I rx rxs ⟨F, y, d, c, res, ev, l, h1, h2, e, hQ⟩
  subst ev
  cases d with
  | str a =>
    cases c with
    | lst ds =>
      have e : (match joinL a ds with | some t => (match lenOk t && lenOk a with | true => some (PR.d (.str t)) | false => none) | none => none) = some res := e
      cases hs : joinL a ds with
      | none => rw [hs] at e; cases e
      | some t =>
        rw [hs] at e
        have e : (match lenOk t && lenOk a with | true => some (PR.d (.str t)) | false => none) = some res := e
        cases hl : lenOk t && lenOk a with
        | false => rw [hl] at e; cases e
        | true =>
          rw [hl] at e
          cases e; cases h1
          rw [Bool.and_eq_true] at hl
          have l1 := lenOk_le hl.1
          have l2 := lenOk_le hl.2
          obtain ⟨ys, rfl, h4, h5⟩ := joinL_ok hs
          obtain ⟨p, vs, rfl, h6, h7⟩ := lst_at h2
          rw [h7.strs] at h6
          refine mt_join pins s σ H _ _ v us Q I rx rxs ⟨⟨a.toArray⟩, p, ys.map fun y => ⟨y.toArray⟩, rfl, rfl, .inl (SqL.of h6), ?_, ?_⟩
          · have e1 : ((ys.map fun y => (⟨y.toArray⟩ : Str)).map (·.length)) = ys.map (·.length) := by
              rw [List.map_map]
              refine List.map_congr_left fun y _ => ?_
              show (⟨y.toArray⟩ : Str).length = y.length
              rw [strlen]
            rw [e1, strlen, List.length_map]
            have e2 : ys.length * a.length ≤ (ys.length - 1) * a.length + a.length := by
              cases ys.length with
              | zero => simp
              | succ n =>
                rw [Nat.succ_mul]
                exact Nat.le_refl _
            have e3 : MAXL = 100000 := rfl
            omega
          · have e6 : Txt.join ⟨a.toArray⟩ (ys.map fun y => (⟨y.toArray⟩ : Str)) = ⟨t.toArray⟩ := by
              unfold Txt.join
              rw [StrLaws.glued_eq_join, h4]
            rw [e6]
            exact hQ _ _ (PRo.data rfl)
    | _ => cases e
  | _ => cases e
end
end Rf
/-! Rf21: index, count. -/
namespace Rf
open PySem PySem.Spec PyProof.Rows L2 PySem.W
theorem idxEq_ok {x : D} : ∀ {ds : List D} {k i : Nat}, idxEq x ds k = some i → ∃ j, i = k + j ∧ (∃ d, ds[j]? = some d ∧ deqB d x = true) ∧ ∀ m d, m < j → ds[m]? = some d → deqB d x = false
  | [], _, _, h => by cases h
  | y :: r, k, i, h => by
    have h : (match deqB y x with | false => idxEq x r (k + 1) | true => some k) = some i := h
    cases hb : deqB y x with
    | true =>
      rw [hb] at h
      cases h
      exact ⟨0, rfl, ⟨y, rfl, hb⟩, fun m d hm _ => absurd hm (Nat.not_lt_zero _)⟩
    | false =>
      rw [hb] at h
      obtain ⟨j, rfl, h2, h3⟩ := idxEq_ok h
      refine ⟨j + 1, by omega, h2, fun m d hm hd => ?_⟩
      cases m with
      | zero => cases hd; exact hb
      | succ m => exact h3 m d (by omega) hd
theorem cntEq_ok {x : D} : ∀ ds : List D, cntEq x ds = (toPs ds).countP (fun z => PyData.eqv z (toP x))
  | [] => rfl
  | y :: r => by
    show (match deqB y x with | false => cntEq x r | true => cntEq x r + 1) = _
    rw [toPs, List.countP_cons, ← cntEq_ok r, ← deqB_eqv]
    cases deqB y x <;> rfl
section
variable {X : Cx}
theorem items_eq {F H : Hp} {s : Shared} {σ : L2.St} {pins : List (Addr × Obj)} {ds : List D} {x : D} {vs : List V} {us : List Value} {y : V} {u : Value} (hu : X.A.units + 100 < cLine) (I : Inv X pins σ H s) (l : Le F H) (hx : okN x 60 = true) (hd : okNs ds 60 = true)
    (h : RDs F ds vs) (rv : Vals vs us) (hy : RT F H x y) (ru : RelV y u) : (∀ z, z ∈ us.toArray → SeqAt.EqAt X.A.in1 s z u (PyData.eqv (SeqAt.readOf s.heap z) (toP x))) ∧ us.map (SeqAt.readOf s.heap) = toPs ds := by
  obtain ⟨as, r1⟩ := readsAll I l hd h rv
  obtain ⟨bs, r2⟩ := reads (F := H) I Le.refl hx (hy.rd l) ru
  obtain ⟨p1, d1⟩ := okNs_ok _ _ hd
  obtain ⟨p2, d2⟩ := okN_ok _ _ hx
  exact ⟨SeqAt.items_plain (A := X.A) (vs := us.toArray) (by simpa using r1) r2 p1 p2 (by omega), SeqAt.readsAll_map_plain _ _ _ p1 r1⟩
def mtL (f : D → D → Option PR) (t : Bool) : V → List V → Hp → VK → Prop := fun x vs H Q => ∃ F v ds c r, vs = [v] ∧ Le F H ∧ RT F H (match t with | true => .tup true ds | false => .lst ds) x ∧ RT F H c v ∧ f (match t with | true => .tup true ds | false => .lst ds) c = some r ∧ ∀ v H', PRo F H r v H' → Q v H'
theorem pIndex_inv {ds : List D} {t : Bool} {c : D} {r : PR} (e : pIndex (match t with | true => .tup true ds | false => .lst ds) c = some r) : okN c 60 = true ∧ okNs ds 60 = true ∧ ∃ i : Nat, idxEq c ds 0 = some i ∧ r = .d (.int i) := by
  have e2 : (match okN c 60 && okNs ds 60 with | true => (match idxEq c ds 0 with | some i => some (PR.d (.int i)) | none => none) | false => none) = some r := by cases t <;> exact e
  cases h : okN c 60 && okNs ds 60 with
  | false => rw [h] at e2; cases e2
  | true =>
    rw [h] at e2
    rw [Bool.and_eq_true] at h
    have e2 : (match idxEq c ds 0 with | some i => some (PR.d (.int i)) | none => none) = some r := e2
    cases hi : idxEq c ds 0 with
    | none => rw [hi] at e2; cases e2
    | some i =>
      rw [hi] at e2
      cases e2
      exact ⟨h.1, h.2, i, rfl, rfl⟩
theorem pCount_inv {ds : List D} {t : Bool} {c : D} {r : PR} (e : pCount (match t with | true => .tup true ds | false => .lst ds) c = some r) : okN c 60 = true ∧ okNs ds 60 = true ∧ r = .d (.int (cntEq c ds)) := by
  have e2 : (match okN c 60 && okNs ds 60 with | true => some (PR.d (.int (cntEq c ds))) | false => none) = some r := by cases t <;> exact e
  cases h : okN c 60 && okNs ds 60 with
  | false => rw [h] at e2; cases e2
  | true =>
    rw [h] at e2
    rw [Bool.and_eq_true] at h
    cases e2
    exact ⟨h.1, h.2, rfl⟩
theorem rel1 {y : V} {us : List Value} (r : Vals [y] us) : ∃ u, us = [u] ∧ RelV y u := by
  cases r with
  | cons r1 t => cases t; exact ⟨_, rfl, r1⟩
theorem pm_lindex (hu : X.A.units + 100 < cLine) : MtR X "list.index" (mtL pIndex false) := by
  intro pins s σ H x xs v us Q I rx rxs ⟨F, y, ds, c, res, ev, l, h1, h2, e, hQ⟩
  subst ev
  obtain ⟨a, vs, rfl, h3, h4⟩ := lst_at h1
  cases rx
  obtain ⟨u, rfl, ru⟩ := rel1 rxs
  obtain ⟨k1, k2, i, k3, rfl⟩ := pIndex_inv (t := false) e
  obtain ⟨its, rv, ⟨⟨cls, dd, data, sls⟩, n, ho, hc, hdn, hdt⟩, hlen⟩ := I.list (SqL.of (K := X.K) h3)
  simp only at hc hdt
  subst hc hdt
  obtain ⟨q1, q2⟩ := items_eq hu I l k1 k2 h4 rv h2 ru
  obtain ⟨j, hj0, ⟨d, hd, hdx⟩, hno⟩ := idxEq_ok k3
  have hji : i = j := by omega
  subst hji
  have hl : its.length = ds.length := by
    have := congrArg List.length q2
    rwa [List.length_map, toPs_map, List.length_map] at this
  obtain ⟨hjd, hdd⟩ := List.getElem?_eq_some_iff.mp hd
  have hjl : i < its.length := by omega
  have at_ : ∀ m (hm : m < its.length) z, ds[m]? = some z → PyData.eqv (SeqAt.readOf s.heap its[m]) (toP c) = deqB z c := fun m hm z hz => by
    have e1 : (toPs ds)[m]? = some (toP z) := by rw [toPs_map, List.getElem?_map, hz]; rfl
    rw [← q2, List.getElem?_map, List.getElem?_eq_getElem hm] at e1
    rw [deqB_eqv, Option.some.inj e1]
  have hsl := sizeLine_eq
  have hvl := rv.length
  refine call_meets PySem.F.slot_list_index ⟨_, ho, rfl⟩ PySem.F.entry_list_index (PySem.F.args_list_index_2 _ _)
    (SeqAt.list_indexAt a its.toArray n dd sls u (fun z => PyData.eqv (SeqAt.readOf s.heap z) (toP c)) i (by simpa using hjl) (by omega) ?_ ?_) ⟨ho, q1, ?_⟩
  · have := at_ i hjl d hd
    simpa [hdx] using this
  · intro m hm hmj
    have hml : m < its.length := by simpa using hm
    have hz : ds[m]? = some ds[m] := List.getElem?_eq_getElem (by omega)
    have := at_ m hml _ hz
    rw [hno m _ hmj hz] at this
    simpa using this
  · exact ⟨.int (i : Nat), H, I.tok _, ⟨_, rfl⟩, hQ _ _ (PRo.data rfl)⟩
theorem pm_lcount (hu : X.A.units + 100 < cLine) : MtR X "list.count" (mtL pCount false) := by
  intro pins s σ H x xs v us Q I rx rxs ⟨F, y, ds, c, res, ev, l, h1, h2, e, hQ⟩
  subst ev
  obtain ⟨a, vs, rfl, h3, h4⟩ := lst_at h1
  cases rx
  obtain ⟨u, rfl, ru⟩ := rel1 rxs
  obtain ⟨k1, k2, rfl⟩ := pCount_inv (t := false) e
  obtain ⟨its, rv, ⟨⟨cls, dd, data, sls⟩, n, ho, hc, hdn, hdt⟩, hlen⟩ := I.list (SqL.of (K := X.K) h3)
  simp only at hc hdt
  subst hc hdt
  obtain ⟨q1, q2⟩ := items_eq hu I l k1 k2 h4 rv h2 ru
  refine call_meets PySem.F.slot_list_count ⟨_, ho, rfl⟩ PySem.F.entry_list_count (PySem.F.args_list_count_2 _ _)
    (SeqAt.list_countAt a its.toArray n dd sls u (fun z => PyData.eqv (SeqAt.readOf s.heap z) (toP c))) ⟨ho, q1, ?_⟩
  have hn : its.toArray.toList.countP (fun z => PyData.eqv (SeqAt.readOf s.heap z) (toP c)) = cntEq c ds := by
    rw [cntEq_ok, ← q2, List.countP_map]
    rfl
  rw [hn]
  exact ⟨.int _, H, I.tok _, ⟨_, rfl⟩, hQ _ _ (PRo.data rfl)⟩
/-- a tuple known to have no dict -/
def tyT (x : V) (H : Hp) : Prop := ∃ a o vs, x = .ref a ∧ H a = some (.frz o (.tup vs)) ∧ o.dict = none
theorem frz_obj {s : Shared} {σ : L2.St} {pins : List (Addr × Obj)} {H : Hp} {a : Addr} {o : Obj} {vs : List V} (I : Inv X pins σ H s) (h : H a = some (.frz o (.tup vs))) : s.heap.get? a = some o := (I.hok a _ h).1
theorem ty_T : TyOk X "tuple" tyT := by
  intro pins σ H s x v I r ⟨a, o, vs, hx, h, hd⟩
  subst hx
  cases r
  obtain ⟨its, rv, ht, _⟩ := I.tuple ((.inl (.inr ⟨o, h⟩) : SqT X.K H a vs))
  have e := frz_obj I h
  obtain ⟨o2, e2, c, _⟩ := id ht
  exact ⟨⟨o2, e2, c⟩, fun b eb => by cases eb; exact ⟨o, e, hd⟩⟩
theorem pm_tindex (hu : X.A.units + 100 < cLine) : MtR X "tuple.index" (mtL pIndex true) := by
  intro pins s σ H x xs v us Q I rx rxs ⟨F, y, ds, c, res, ev, l, h1, h2, e, hQ⟩
  subst ev
  obtain ⟨a, vs, rfl, h3, h4⟩ := tup_at h1
  cases rx
  obtain ⟨u, rfl, ru⟩ := rel1 rxs
  obtain ⟨k1, k2, i, k3, rfl⟩ := pIndex_inv (t := true) e
  obtain ⟨its, rv, ⟨⟨cls, dd, data, sls⟩, ho, hc, n, hdt⟩, hlen⟩ := I.tuple (h3.sq l (K := X.K))
  simp only at hc hdt
  subst hc hdt
  obtain ⟨q1, q2⟩ := items_eq hu I l k1 k2 h4 rv h2 ru
  obtain ⟨j, hj0, ⟨d, hd, hdx⟩, hno⟩ := idxEq_ok k3
  have hji : i = j := by omega
  subst hji
  have hl : its.length = ds.length := by
    have := congrArg List.length q2
    rwa [List.length_map, toPs_map, List.length_map] at this
  obtain ⟨hjd, hdd⟩ := List.getElem?_eq_some_iff.mp hd
  have hjl : i < its.length := by omega
  have at_ : ∀ m (hm : m < its.length) z, ds[m]? = some z → PyData.eqv (SeqAt.readOf s.heap its[m]) (toP c) = deqB z c := fun m hm z hz => by
    have e1 : (toPs ds)[m]? = some (toP z) := by rw [toPs_map, List.getElem?_map, hz]; rfl
    rw [← q2, List.getElem?_map, List.getElem?_eq_getElem hm] at e1
    rw [deqB_eqv, Option.some.inj e1]
  refine call_meets PySem.F.slot_tuple_index ⟨_, ho, rfl⟩ PySem.F.entry_tuple_index (PySem.F.args_tuple_index_2 _ _)
    (SeqAt.tuple_index2_found a its.toArray n dd sls u (fun m => PyData.eqv (SeqAt.readOf s.heap (its.toArray[m]?.getD .none)) (toP c)) i (by simpa using hjl) (Nat.zero_le _) (by simpa using hjl) ?_ ?_) ⟨ho, ?_, ?_⟩
  · have := at_ i hjl d hd
    simpa [hdx, hjl] using this
  · intro m hm _ hmj
    have hml : m < its.length := by simpa using hm
    have hz : ds[m]? = some ds[m] := List.getElem?_eq_getElem (by omega)
    have := at_ m hml _ hz
    rw [hno m _ hmj hz] at this
    simpa [hml] using this
  · intro m hm
    have := q1 its.toArray[m] (Array.getElem_mem hm)
    have e2 : its.toArray[m]?.getD .none = its.toArray[m] := by rw [Array.getElem?_eq_getElem hm]; rfl
    rw [e2]
    exact this
  · exact ⟨.int (i : Nat), H, I.tok _, ⟨_, rfl⟩, hQ _ _ (PRo.data rfl)⟩
theorem pm_tcount (hu : X.A.units + 100 < cLine) : MtR X "tuple.count" (mtL pCount true) := by
  intro pins s σ H x xs v us Q I rx rxs ⟨F, y, ds, c, res, ev, l, h1, h2, e, hQ⟩
  subst ev
  obtain ⟨a, vs, rfl, h3, h4⟩ := tup_at h1
  cases rx
  obtain ⟨u, rfl, ru⟩ := rel1 rxs
  obtain ⟨k1, k2, rfl⟩ := pCount_inv (t := true) e
  obtain ⟨its, rv, ⟨⟨cls, dd, data, sls⟩, ho, hc, n, hdt⟩, hlen⟩ := I.tuple (h3.sq l (K := X.K))
  simp only at hc hdt
  subst hc hdt
  obtain ⟨q1, q2⟩ := items_eq hu I l k1 k2 h4 rv h2 ru
  refine call_meets PySem.F.slot_tuple_count ⟨_, ho, rfl⟩ PySem.F.entry_tuple_count (PySem.F.args_tuple_count_2 _ _)
    (SeqAt.tuple_countAt a its.toArray n dd sls u (fun z => PyData.eqv (SeqAt.readOf s.heap z) (toP c))) ⟨ho, q1, ?_⟩
  have hn : its.toArray.toList.countP (fun z => PyData.eqv (SeqAt.readOf s.heap z) (toP c)) = cntEq c ds := by
    rw [cntEq_ok, ← q2, List.countP_map]
    rfl
  rw [hn]
  exact ⟨.int _, H, I.tok _, ⟨_, rfl⟩, hQ _ _ (PRo.data rfl)⟩
/-! a text's count of one sign -/
theorem occ_grow (x : Str) (c limit : Nat) : ∀ (n lo : Nat) (st : Array Nat × Nat), st.2 ≤ lo → st.1.size + n ≤ limit →
    (forIn (List.range' lo n) st (StrLaws.occBody x ⟨#[c]⟩ x.length limit)).run.fst.size = st.1.size + (((x.cps.toList.drop lo).take n).filter (fun d => d == c)).length
  | 0, lo, st, h1, h2 => by simp
  | n + 1, lo, st, h1, h2 => by
    rw [List.range'_succ, List.forIn_cons]
    have hs := StrLaws.subAt_one x c lo
    by_cases hc : x.cps.toList[lo]? = some c
    · have hp := hs.mpr hc
      have hlt : lo < x.cps.toList.length := (List.getElem?_eq_some_iff.mp hc).1
      have hb : StrLaws.occBody x ⟨#[c]⟩ x.length limit lo st = pure (ForInStep.yield (st.1.push lo, lo + 1)) := by
        unfold StrLaws.occBody
        rw [if_pos ⟨⟨⟨by omega, h1⟩, hp.1⟩, hp.2⟩]
        rfl
      rw [hb]
      show (forIn (List.range' (lo + 1) n) (st.1.push lo, lo + 1) (StrLaws.occBody x ⟨#[c]⟩ x.length limit)).run.fst.size = _
      rw [occ_grow x c limit n (lo + 1) (st.1.push lo, lo + 1) (Nat.le_refl _) (by simp; omega)]
      have e1 : x.cps.toList.drop lo = c :: x.cps.toList.drop (lo + 1) := by
        rw [List.drop_eq_getElem_cons hlt]
        rw [List.getElem?_eq_getElem hlt] at hc
        rw [Option.some.inj hc]
      rw [e1, List.take_succ_cons, List.filter_cons_of_pos (by simp)]
      simp
      omega
    · have hb : StrLaws.occBody x ⟨#[c]⟩ x.length limit lo st = pure (ForInStep.yield st) := by
        unfold StrLaws.occBody
        rw [if_neg fun z => hc (hs.mp ⟨z.1.2, z.2⟩)]
      rw [hb]
      show (forIn (List.range' (lo + 1) n) st (StrLaws.occBody x ⟨#[c]⟩ x.length limit)).run.fst.size = _
      rw [occ_grow x c limit n (lo + 1) st (by omega) (by omega)]
      by_cases hlt : lo < x.cps.toList.length
      · rw [List.drop_eq_getElem_cons hlt, List.take_succ_cons, List.filter_cons_of_neg]
        rw [List.getElem?_eq_getElem hlt] at hc
        simpa using fun z => hc (by simpa using z)
      · rw [List.drop_eq_nil_of_le (by omega), List.drop_eq_nil_of_le (by omega)]
        simp
theorem cntN_eq (c : Nat) : ∀ s : List Nat, cntN c s = (s.filter (fun d => d == c)).length
  | [] => rfl
  | a :: r => by
    show (match Nat.beq a c with | true => cntN c r + 1 | false => cntN c r) = _
    rw [List.filter_cons]
    have e : (a == c) = Nat.beq a c := by rw [Bool.eq_iff_iff]; simp [Nat.beq_eq]
    rw [e]
    cases Nat.beq a c with
    | true => show cntN c r + 1 = _; rw [cntN_eq c r]; rfl
    | false => exact cntN_eq c r
theorem count_one (s : List Nat) (c : Nat) : Txt.count ⟨s.toArray⟩ ⟨#[c]⟩ = cntN c s := by
  unfold Txt.count
  rw [StrLaws.occ_eq, Array.length_toList]
  have hlen : (⟨s.toArray⟩ : Str).length = s.length := strlen _
  rw [occ_grow ⟨s.toArray⟩ c _ _ 0 (#[], 0) (Nat.le_refl _) (by rw [hlen]; simp)]
  rw [hlen, cntN_eq]
  simp [List.take_of_length_le]
def rSC : V → List V → Hp → VK → Prop := fun x vs H Q => ∃ F v d c r, vs = [v] ∧ Le F H ∧ RT F H d x ∧ RT F H c v ∧ strC d c = some r ∧ ∀ v H', PRo F H r v H' → Q v H'
theorem pm_scount : MtR X "str.count" rSC := by
  intro pins s σ H x xs v us Q I rx rxs ⟨F, y, d, c, res, ev, l, h1, h2, e, hQ⟩
  subst ev
  match d, c, e, h1, h2 with
  | .str a, .str [b], e, h1, h2 =>
    cases e; cases h1; cases h2
    refine mt_count pins s σ H _ _ v us Q I rx rxs ⟨_, _, rfl, rfl, ?_⟩
    rw [show (⟨([b] : List Nat).toArray⟩ : Str) = ⟨#[b]⟩ from rfl, count_one]
    exact hQ _ _ (PRo.data rfl)
end
end Rf
/-! Rf22: min and max of two; the calls as expressions. -/
namespace Rf
open PySem PySem.Spec PyProof.Rows L2 PySem.W
section
variable {prog : Program} {w : World} {A : Around} {E : Value → Shared → Prop} {s : Shared}
theorem two_mem {a b v : Value} {i : Nat} (h : #[a, b][i]? = some v) : [a, b][i]? = some v := by
  simpa using h
theorem min_two_data {a b : Value} {x y : PyData} {as : List Addr} {Q : Value → Shared → Prop} (hh : A.handled = none) (hr : ReadsAll s.heap [a, b] [x, y] as) (ha : AlikeAll [x, y]) (hu : A.units + 1 + PyData.depthAll [x, y] < cLine)
    (h : ∀ (i : Nat) v h' tk bs, [a, b][i]? = some v → Reads h' v (PySem.W.minD x [y]) bs → (∀ b o, s.heap.get? b = some o → h'.get? b = some o) → Q v { s with heap := h', toks := tk }) : wpAny (model prog w) A (call (.builtin "min") [a, b]) Q E s := by
  have nm : (toString "min" ++ toString ".loop" : String) = "min.loop" := by decide
  refine call_function_tree PySem.F.kind_min PySem.F.plain_min PySem.F.entry_min (PySem.F.args_min2 _ _) ?_
  show wpAny _ A.in1 (Builtin.Builtins.bindParams "min" ["key", "default"] 0 ⟨[], []⟩ >>= _) _ _ s
  refine wpAny_bind (wpAny_of_eq (show Builtin.Builtins.bindParams "min" ["key", "default"] 0 ⟨[], []⟩ = pure [none, none] from rfl) ?_)
  show wpAny _ A.in1 (newTuple [a, b] >>= _) _ _ s
  refine wpAny_bind (wpAny_newObj_type ?_)
  have k1 : ∀ c o, s.heap.get? c = some o → (s.heap.push { cls := .type "tuple", data := .seq #[a, b] }).get? c = some o := fun b o e => Heap.get?_push_of_some _ e
  refine wpAny_bind (iter_tupleW (A := A.in1) (vs := #[a, b]) hh ⟨_, Heap.get?_push_size _ rfl, rfl, _, rfl⟩ fun s₂ e W st hfp hw hk => ?_)
  refine wpAny_bind (wpAny_newObj_type ?_)
  rw [nm]
  have hr1 := ReadsAll.keeps k1 hr
  refine wpAny_pure ⟨plainId_quiet PySem.F.plain_min_loop _, codeAny_min_loop_firstH W _ hw _ (cmpIn_lt (A := A.in1) (s := { s with heap := s.heap.push { cls := .type "tuple", data := .seq #[a, b] } }) (vs := #[a, b]) hr1 ha (by show A.units + 1 + _ < _; exact hu)) s₂.heap.objs.size (fun hm => Nat.lt_irrefl _ (hfp _ hm)) (fresh_in hk) _ (Nat.zero_lt_two)
    (fun b o e => Heap.get?_push_of_some _ (hk b o e)) (W.frame 0 s₂ _ s₂.toks st (Nat.le_refl _) fun b _ o e => Heap.get?_push_of_some _ e) (Heap.get?_push_size _ rfl) fun v s' hP hm => ?_⟩
  have m := Moved.drop_new (tk := s₂.toks) hm (Nat.le_refl _)
  obtain ⟨h', tk, rfl, hk'⟩ := moved_old e rfl m
  obtain ⟨bs, r, _, _, _⟩ := readsAll_atA hr1 _ v hP
  have e2 := (argBest_fold dataLt PyData.none x [y] 1 (Nat.le_refl _)).2
  refine h _ v h' tk bs (two_mem hP) (reads_keeps hk' ?_) fun b o eb => hk' b o (k1 b o eb)
  unfold PySem.W.minD
  have e3 : (List.take 1 [y]) = [y] := rfl
  rw [e3] at e2
  rw [← e2]
  exact r
theorem max_two_data {a b : Value} {x y : PyData} {as : List Addr} {Q : Value → Shared → Prop} (hh : A.handled = none) (hr : ReadsAll s.heap [a, b] [x, y] as) (ha : AlikeAll [x, y]) (hu : A.units + 1 + PyData.depthAll [x, y] < cLine)
    (h : ∀ (i : Nat) v h' tk bs, [a, b][i]? = some v → Reads h' v (PySem.W.maxD x [y]) bs → (∀ b o, s.heap.get? b = some o → h'.get? b = some o) → Q v { s with heap := h', toks := tk }) : wpAny (model prog w) A (call (.builtin "max") [a, b]) Q E s := by
  have nm : (toString "max" ++ toString ".loop" : String) = "max.loop" := by decide
  refine call_function_tree PySem.F.kind_max PySem.F.plain_max PySem.F.entry_max (PySem.F.args_max2 _ _) ?_
  show wpAny _ A.in1 (Builtin.Builtins.bindParams "max" ["key", "default"] 0 ⟨[], []⟩ >>= _) _ _ s
  refine wpAny_bind (wpAny_of_eq (show Builtin.Builtins.bindParams "max" ["key", "default"] 0 ⟨[], []⟩ = pure [none, none] from rfl) ?_)
  show wpAny _ A.in1 (newTuple [a, b] >>= _) _ _ s
  refine wpAny_bind (wpAny_newObj_type ?_)
  have k1 : ∀ c o, s.heap.get? c = some o → (s.heap.push { cls := .type "tuple", data := .seq #[a, b] }).get? c = some o := fun b o e => Heap.get?_push_of_some _ e
  refine wpAny_bind (iter_tupleW (A := A.in1) (vs := #[a, b]) hh ⟨_, Heap.get?_push_size _ rfl, rfl, _, rfl⟩ fun s₂ e W st hfp hw hk => ?_)
  refine wpAny_bind (wpAny_newObj_type ?_)
  rw [nm]
  have hr1 := ReadsAll.keeps k1 hr
  refine wpAny_pure ⟨plainId_quiet PySem.F.plain_max_loop _, codeAny_max_loop_firstH W _ hw _ (cmpIn_gt (A := A.in1) (s := { s with heap := s.heap.push { cls := .type "tuple", data := .seq #[a, b] } }) (vs := #[a, b]) hr1 ha (by show A.units + 1 + _ < _; exact hu)) s₂.heap.objs.size (fun hm => Nat.lt_irrefl _ (hfp _ hm)) (fresh_in hk) _ (Nat.zero_lt_two)
    (fun b o e => Heap.get?_push_of_some _ (hk b o e)) (W.frame 0 s₂ _ s₂.toks st (Nat.le_refl _) fun b _ o e => Heap.get?_push_of_some _ e) (Heap.get?_push_size _ rfl) fun v s' hP hm => ?_⟩
  have m := Moved.drop_new (tk := s₂.toks) hm (Nat.le_refl _)
  obtain ⟨h', tk, rfl, hk'⟩ := moved_old e rfl m
  obtain ⟨bs, r, _, _, _⟩ := readsAll_atA hr1 _ v hP
  have e2 := (argBest_fold (fun p q => dataLt q p) PyData.none x [y] 1 (Nat.le_refl _)).2
  refine h _ v h' tk bs (two_mem hP) (reads_keeps hk' ?_) fun b o eb => hk' b o (k1 b o eb)
  unfold PySem.W.maxD
  have e3 : (List.take 1 [y]) = [y] := rfl
  rw [e3] at e2
  rw [← e2]
  exact r
end
section
variable {X : Cx}
theorem min2_inv {a b : D} {r : PR} (e : pMin2 a b = some r) : AK [a, b] ∧ r = .d (minL a [b]) ∧ noTop a = true ∧ noTop b = true := by
  have e2 : (match alkAll [a, b] && noTop a && noTop b with | true => (match dlt b a with | true => some (PR.d b) | false => some (PR.d a)) | false => none) = some r := e
  cases h : alkAll [a, b] && noTop a && noTop b with
  | false => rw [h] at e2; cases e2
  | true =>
    rw [h] at e2
    rw [Bool.and_eq_true, Bool.and_eq_true] at h
    refine ⟨alkAll_ok h.1.1, ?_, h.1.2, h.2⟩
    have e2 : (match dlt b a with | true => some (PR.d b) | false => some (PR.d a)) = some r := e2
    show r = .d (match dlt b a with | true => minL b [] | false => minL a [])
    cases hd : dlt b a <;> rw [hd] at e2 <;> cases e2 <;> rfl
theorem max2_inv {a b : D} {r : PR} (e : pMax2 a b = some r) : AK [a, b] ∧ r = .d (maxL a [b]) ∧ noTop a = true ∧ noTop b = true := by
  have e2 : (match alkAll [a, b] && noTop a && noTop b with | true => (match dlt a b with | true => some (PR.d b) | false => some (PR.d a)) | false => none) = some r := e
  cases h : alkAll [a, b] && noTop a && noTop b with
  | false => rw [h] at e2; cases e2
  | true =>
    rw [h] at e2
    rw [Bool.and_eq_true, Bool.and_eq_true] at h
    refine ⟨alkAll_ok h.1.1, ?_, h.1.2, h.2⟩
    have e2 : (match dlt a b with | true => some (PR.d b) | false => some (PR.d a)) = some r := e2
    show r = .d (match dlt a b with | true => maxL b [] | false => maxL a [])
    cases hd : dlt a b <;> rw [hd] at e2 <;> cases e2 <;> rfl
theorem RT.rdT {F H : Hp} {d : D} {v : V} (h : RT F H d v) (n : noTop d = true) : RD F d v := by
  cases d with
  | lst ds => cases n
  | dct ks vs => cases n
  | _ => exact h
theorem pr_min2 (hc : X.calm = true) (hu : X.A.units + 100 < cLine) : CallR X (.builtin "min") (rB2 pMin2) := by
  intro pins s σ H xs us Q I r ⟨F, v, u, d, c, res, ev, l, h1, h2, e, hQ⟩
  subst ev
  obtain ⟨ak, rfl, n1, n2⟩ := min2_inv e
  obtain ⟨m1, m2⟩ := minL_eq [c] d ak.al
  have hr : RDs F [d, c] [v, u] := RDs.cons (h1.rdT n1) (RDs.cons (h2.rdT n2) RDs.nil)
  have dp := (okNs_ok _ _ ak.ok).2
  obtain ⟨as, rd⟩ := readsAll I l ak.ok hr r
  obtain ⟨a, b, rfl, ra, rb⟩ := vals2' r
  refine min_two_data (I.ok.hd hc) rd ak.alike (by show X.A.units + 1 + PyData.depthAll (toPs [d, c]) < cLine; omega) fun i z h' tk bs hi rz kp => ?_
  have I' : Inv X pins σ H { s with heap := h', toks := tk } := I.kept (t' := tk) kp
  obtain ⟨y, rw', hw⟩ := best_item (s := s) ak l I' hr r m2 hi (by rw [m1]; exact rz)
  exact ⟨y, H, I', rw', hQ _ _ (PRo.data hw)⟩
theorem pr_max2 (hc : X.calm = true) (hu : X.A.units + 100 < cLine) : CallR X (.builtin "max") (rB2 pMax2) := by
  intro pins s σ H xs us Q I r ⟨F, v, u, d, c, res, ev, l, h1, h2, e, hQ⟩
  subst ev
  obtain ⟨ak, rfl, n1, n2⟩ := max2_inv e
  obtain ⟨m1, m2⟩ := maxL_eq [c] d ak.al
  have hr : RDs F [d, c] [v, u] := RDs.cons (h1.rdT n1) (RDs.cons (h2.rdT n2) RDs.nil)
  have dp := (okNs_ok _ _ ak.ok).2
  obtain ⟨as, rd⟩ := readsAll I l ak.ok hr r
  obtain ⟨a, b, rfl, ra, rb⟩ := vals2' r
  refine max_two_data (I.ok.hd hc) rd ak.alike (by show X.A.units + 1 + PyData.depthAll (toPs [d, c]) < cLine; omega) fun i z h' tk bs hi rz kp => ?_
  have I' : Inv X pins σ H { s with heap := h', toks := tk } := I.kept (t' := tk) kp
  obtain ⟨y, rw', hw⟩ := best_item (s := s) ak l I' hr r m2 hi (by rw [m1]; exact rz)
  exact ⟨y, H, I', rw', hQ _ _ (PRo.data hw)⟩
/-! ### the calls as expressions -/
variable {T : List Addr} {cl : Calls}
theorem un_inv {f : D → Option PR} {ds : List D} {r : PR} (e : un f ds = some r) : ∃ d, ds = [d] ∧ f d = some r := by
  match ds, e with
  | [d], e => exact ⟨d, rfl, e⟩
theorem bi_inv {f : D → D → Option PR} {ds : List D} {r : PR} (e : bi f ds = some r) : ∃ d c, ds = [d, c] ∧ f d c = some r := by
  match ds, e with
  | [d, c], e => exact ⟨d, c, rfl, e⟩
theorem prim_step {p : Prim} {box : Bool} {es' : List E} {σ : L2.St} {H : Hp} {Q : VK} (h : tEv T (ev cl (.prim p box es')) σ H Q) : tWs T (evW cl es') σ H fun vs H1 => ∃ F ds r, Le F H1 ∧ RTs F H1 ds vs ∧ prim p ds = some r ∧ ∀ v H', PRo F H1 r v H' → Q v H' := by
  obtain ⟨F, ρ, env, st, w, st', r, hE, e1, fin⟩ := h
  simp only [ev] at e1
  cases hw : evW cl es' env st with
  | none => rw [hw] at e1; cases e1
  | some q =>
    obtain ⟨ws, st1⟩ := q
    rw [hw] at e1
    simp only at e1
    cases hv : views st1 ws with
    | none => rw [hv] at e1; cases e1
    | some ds =>
      rw [hv] at e1
      simp only at e1
      cases hp : prim p ds with
      | none => rw [hp] at e1; cases e1
      | some pr =>
        rw [hp] at e1
        simp only [Option.some.injEq] at e1
        refine ⟨F, ρ, env, st, ws, st1, r, hE, hw, fun F' ρ' H' vs s2 r2 hws => ?_⟩
        refine ⟨F', ds, pr, r2.sub, views_ok r2 hv hws, hp, fun v H2 hpo => ?_⟩
        have e2 : (mk box st1 pr).1 = w ∧ (mk box st1 pr).2 = st' := by rw [e1]; exact ⟨rfl, rfl⟩
        refine Fin.po (p := pr) (box := box) (st := st1) ?_ r2 hpo
        rw [e2.1, e2.2]
        exact fin.step s2
theorem un_r {f : D → Option PR} {F H : Hp} {ds : List D} {vs : List V} {pr : PR} {Q : VK} (l : Le F H) (h : RTs F H ds vs) (e : un f ds = some pr) (hQ : ∀ v H', PRo F H pr v H' → Q v H') : rU1 f vs H Q := by
  obtain ⟨d, rfl, e⟩ := un_inv e
  obtain ⟨v, r, rfl, h1, h2⟩ := h
  cases h2
  exact ⟨F, v, d, pr, rfl, l, h1, e, hQ⟩
theorem bi_r {f : D → D → Option PR} {F H : Hp} {ds : List D} {vs : List V} {pr : PR} {Q : VK} (l : Le F H) (h : RTs F H ds vs) (e : bi f ds = some pr) (hQ : ∀ v H', PRo F H pr v H' → Q v H') : rB2 f vs H Q := by
  obtain ⟨d, c, rfl, e⟩ := bi_inv e
  obtain ⟨v, r, rfl, h1, u, r2, rfl, h2, h3⟩ := h
  cases h3
  exact ⟨F, v, u, d, c, pr, rfl, l, h1, h2, e, hQ⟩
end
end Rf
/-! Rf23: what is walked: values, ranges. -/
namespace Rf
open PySem PySem.Spec PyProof.Rows L2 PySem.W
/-- iter(v), by values -/
def ItR (X : Cx) (tg : Expr) (r : V → Hp → (It → Hp → Prop) → Prop) : Prop :=
  ∀ (pins : List (Addr × Obj)) (s : Shared) (σ : L2.St) (H : Hp) (x : V) (v : Value) (R : It → Hp → Prop), Inv X pins σ H s → RelV x v → r x H R → wpAny (model X.prog X.w) X.A (pyIter v) (PIE X pins σ tg R) X.xe s
section
variable {X : Cx} {tg : Expr} {T : List Addr} {cl : Calls}
theorem it_list : ItR X tg (fun x H R => ∃ a, x = .ref a ∧ (∃ xs, SqL X.K H a xs) ∧ R (Itl X.K a) H) := by
  intro pins s σ H x v R I r ⟨a, e, ⟨xs, hq⟩, q⟩
  subst e
  cases r
  obtain ⟨its, rv, p, hz⟩ := I.list hq
  exact wpAny_pyIter_list p.isList (pi_one (tk := s.toks) I _ (turn_list a _) ⟨_, Heap.get?_push_size _ rfl, rfl, rfl⟩ q)
theorem it_tup : ItR X tg (fun x H R => ∃ a, x = .ref a ∧ (∃ xs, SqT X.K H a xs) ∧ R (Itt X.K a) H) := by
  intro pins s σ H x v R I r ⟨a, e, ⟨xs, hq⟩, q⟩
  subst e
  cases r
  obtain ⟨its, rv, p, hz⟩ := I.tuple hq
  exact wpAny_pyIter_tuple (show s.heap.IsTuple a its.toArray from p) (pi_one (tk := s.toks) I _ (turn_tuple a _) ⟨_, Heap.get?_push_size _ rfl, rfl, rfl⟩ q)
theorem it_str : ItR X tg (fun x H R => ∃ z, x = .str z ∧ R (Its z) H) := by
  intro pins s σ H x v R I r ⟨z, e, q⟩
  subst e
  obtain ⟨t, rfl⟩ := r
  cases ha : z.cps.all (· < 128)
  · exact wpAny_pyIter_wide ha (pi_one (tk := s.toks) I _ (turn_str _ z t "str_iterator" (.inr rfl)) ⟨_, Heap.get?_push_size _ rfl, rfl, rfl⟩ q)
  · exact wpAny_pyIter_ascii ha (pi_one (tk := s.toks) I _ (turn_str _ z t "str_ascii_iterator" (.inl rfl)) ⟨_, Heap.get?_push_size _ rfl, rfl, rfl⟩ q)
theorem ItR.or {r r' : V → Hp → (It → Hp → Prop) → Prop} (h : ItR X tg r) (h' : ItR X tg r') : ItR X tg (fun x H R => r x H R ∨ r' x H R) := by
  intro pins s σ H x v R I rv q
  rcases q with q | q
  · exact h pins s σ H x v R I rv q
  · exact h' pins s σ H x v R I rv q
theorem pi_of {e : Expr} {te : TE} {r : V → Hp → (It → Hp → Prop) → Prop} (h : ItR X tg r) (he : PE X e te) : PI X tg e (fun σ H R => te σ H fun x H1 => r x H1 R) :=
  ⟨fun pins s σ H R I q => thn (he.run pins s σ H _ I q) fun v s1 ⟨x, H1, I1, r1, q1⟩ => h pins s1 σ H1 x v R I1 r1 q1⟩
/-! what the evaluator says of them -/
theorem stop_match {i n : Nat} {f : D → Prop} {p : Prop} (h : i = n → p) : (match stopAt i n with | .item d => f d | .stop => p | .bad => True) := by
  rcases stopAt_eq (i := i) (n := n) rfl with ⟨e, h2⟩ | e
  · rw [e]; exact h h2
  · rw [e]; trivial
theorem itok_list {F : Hp} {ρ : List Addr} {ds : List D} {a : Addr} {vs : List V} (ha : F a = some (.lst vs)) (hd : RDs F ds vs) : ItOk T F ρ (.seq ds) (Itl X.K a) := by
  intro i F' ρ' st H l m r
  have h1 : H a = some (.lst vs) := r.sub a _ (l a _ ha)
  have hl := hd.length
  have hx : nxt (.seq ds) st i = (match nth ds i with | some x => Nxt.item x | none => stopAt i ds.length) := rfl
  rw [hx]
  cases hn : nth ds i with
  | none => exact stop_match fun e => ⟨vs, SqL.of h1, by omega⟩
  | some d =>
    obtain ⟨v, hv, rv⟩ := hd.nth hn
    refine ⟨⟨vs, v, SqL.of h1, hv⟩, fun x H' ⟨e, hx⟩ => ?_⟩
    subst e
    have e2 := hx vs (SqL.of h1)
    rw [hv] at e2
    cases e2
    exact ⟨F', Step.refl, r, rv.le l⟩
theorem itok_tup {F : Hp} {ρ : List Addr} {ds : List D} {a : Addr} {k : Bool} {vs : List V} (ha : TupAt F k a vs) (hd : RDs F ds vs) : ItOk T F ρ (.seq ds) (Itt X.K a) := by
  intro i F' ρ' st H l m r
  have h1 : SqT X.K H a vs := (ha.le l).sq r.sub
  have hl := hd.length
  have hx : nxt (.seq ds) st i = (match nth ds i with | some x => Nxt.item x | none => stopAt i ds.length) := rfl
  rw [hx]
  cases hn : nth ds i with
  | none => exact stop_match fun e => ⟨vs, h1, by omega⟩
  | some d =>
    obtain ⟨v, hv, rv⟩ := hd.nth hn
    refine ⟨⟨vs, v, h1, hv⟩, fun x H' ⟨e, hx⟩ => ?_⟩
    subst e
    have e2 := hx vs h1
    rw [hv] at e2
    cases e2
    exact ⟨F', Step.refl, r, rv.le l⟩
theorem nth_chrs (s : List Nat) (i : Nat) : nth (chrs s) i = (s[i]?).map fun c => D.str [c] := by
  rw [nth_eq, chrs, List.getElem?_map]
theorem itok_str {F : Hp} {ρ : List Addr} {s : List Nat} : ItOk T F ρ (.seq (chrs s)) (Its ⟨s.toArray⟩) := by
  intro i F' ρ' st H l m r
  have hx : nxt (.seq (chrs s)) st i = (match nth (chrs s) i with | some x => Nxt.item x | none => stopAt i (chrs s).length) := rfl
  rw [hx, nth_chrs]
  cases hn : s[i]? with
  | none => exact stop_match fun e => (show s.toArray.size ≤ i by rw [e]; simp [chrs])
  | some c =>
    have hi := (List.getElem?_eq_some_iff.mp hn).1
    refine ⟨by show i < s.toArray.size; simpa using hi, fun x H' ⟨e, c', hc, hv⟩ => ?_⟩
    subst e hv
    have e2 : c' = c := by
      have : s[i]? = some c' := by simpa using hc
      rw [hn] at this
      exact (Option.some.inj this).symm
    subst e2
    exact ⟨F', Step.refl, r, rfl⟩
theorem itok_live {F : Hp} {ρ : List Addr} {n : Nat} {a : Addr} (ha : ρ[n]? = some a) : ItOk T F ρ (.live n) (Itl X.K a) := by
  intro i F' ρ' st H l ⟨more, m⟩ r
  have h0 : ρ'[n]? = some a := by
    rw [m, List.getElem?_append_left (List.getElem?_eq_some_iff.mp ha).1]
    exact ha
  have q := r.look h0
  have hx : nxt (.live n) st i = (match getO st n with | .lst ds => (match nth ds i with | some x => Nxt.item x | none => .stop) | _ => .bad) := rfl
  rw [hx]
  cases ho : getO st n with
  | lst ds =>
    rw [ho] at q
    obtain ⟨fa, hl⟩ := q
    obtain ⟨a', vs, e1, h1, h2⟩ := lst_at hl
    cases e1
    have hlen := h2.length
    simp only
    cases hn : nth ds i with
    | none =>
      refine ⟨vs, SqL.of h1, ?_⟩
      rw [nth_eq] at hn
      have := List.getElem?_eq_none_iff.mp hn
      omega
    | some d =>
      obtain ⟨v, hv, rv⟩ := h2.nth hn
      refine ⟨⟨vs, v, SqL.of h1, hv⟩, fun x H' ⟨e, hx⟩ => ?_⟩
      subst e
      have e2 := hx vs (SqL.of h1)
      rw [hv] at e2
      cases e2
      exact ⟨F', Step.refl, r, rv⟩
  | dct ks vs => trivial
  | dead => trivial
def rWalk (X : Cx) : V → Hp → (It → Hp → Prop) → Prop := fun x H R => (∃ a, x = .ref a ∧ (∃ xs, SqL X.K H a xs) ∧ R (Itl X.K a) H) ∨ (∃ a, x = .ref a ∧ (∃ xs, SqT X.K H a xs) ∧ R (Itt X.K a) H) ∨ (∃ z, x = .str z ∧ R (Its z) H)
theorem it_walk : ItR X tg (rWalk X) := it_list.or (it_tup.or it_str)
theorem walk_r {F : Hp} {ρ : List Addr} {st : St} {H : Hp} {w : W} {it : Itr} {v : V} {R : It → Hp → Prop} (r : Rl T F ρ st H) (hw : RW F ρ w v) (e : walkV st w = some it) (hR : ∀ J, ItOk T F ρ it J → R J H) : rWalk X v H R := by
  cases w with
  | un => cases e
  | ref n =>
    obtain ⟨a, ha, rfl⟩ := hw
    have q := r.look ha
    have e : (match getO st n with | .lst _ => some (Itr.live n) | _ => none) = some it := e
    cases ho : getO st n with
    | lst ds =>
      rw [ho] at q e
      cases e
      obtain ⟨a', vs, e1, h1, h2⟩ := lst_at q.2
      cases e1
      exact .inl ⟨a, rfl, ⟨vs, SqL.of h1⟩, hR _ (itok_live ha)⟩
    | dct ks vs => rw [ho] at e; cases e
    | dead => rw [ho] at e; cases e
  | d x =>
    cases x with
    | lst ds =>
      cases e
      obtain ⟨a, vs, rfl, h1, h2⟩ := (show RD F (.lst ds) v from hw)
      exact .inl ⟨a, rfl, ⟨vs, SqL.of (r.sub a _ h1)⟩, hR _ (itok_list h1 h2)⟩
    | tup k ds =>
      cases e
      obtain ⟨a, vs, rfl, h1, h2⟩ := (show RD F (.tup k ds) v from hw)
      exact .inr (.inl ⟨a, rfl, ⟨vs, h1.sq r.sub⟩, hR _ (itok_tup h1 h2)⟩)
    | str s =>
      cases e
      cases (show v = .str ⟨s.toArray⟩ from hw)
      exact .inr (.inr ⟨_, rfl, hR _ itok_str⟩)
    | _ => cases e
theorem pi_walk {e : Expr} {e' : E} (he : PE X e (tEv T (ev cl e'))) : PI X tg e (tIv T (evF cl (.walk e'))) := (pi_of it_walk he).mono fun σ H R ⟨F, ρ, env, st, it, st', r, hE, e1, fin⟩ => by
  simp only [evF] at e1
  cases h1 : ev cl e' env st with
  | none => rw [h1] at e1; cases e1
  | some q =>
    obtain ⟨w, st1⟩ := q
    rw [h1] at e1
    simp only at e1
    cases h2 : walkV st1 w with
    | none => rw [h2] at e1; cases e1
    | some it1 =>
      rw [h2] at e1
      cases e1
      exact ⟨F, ρ, env, st, w, st', r, hE, h1, fun F' ρ' H' v s' r' hw => walk_r r' hw h2 fun J hJ => fin F' ρ' H' J s' r' hJ⟩
end
end Rf
/-! Rf24: ranges. -/
namespace Rf
open PySem PySem.Spec PyProof.Rows L2 PySem.W
section
variable {X : Cx} {tg : Expr} {T : List Addr} {cl : Calls}
theorem nth_rngUp : ∀ (n : Nat) (lo : Int) (i : Nat), nth (rngUp lo n) i = if i < n then some (.int (lo + i)) else none
  | 0, lo, i => by simp [rngUp, nth]
  | n + 1, lo, 0 => by simp [rngUp, nth]
  | n + 1, lo, i + 1 => by
    show nth (rngUp (lo + 1) n) i = _
    rw [nth_rngUp n (lo + 1) i]
    by_cases h : i < n
    · rw [if_pos h, if_pos (by omega)]
      congr 2
      omega
    · rw [if_neg h, if_neg (by omega)]
theorem nth_rngC : ∀ (n : Nat) (lo c : Int) (i : Nat), nth (rngC lo c n) i = if i < n then some (.int (lo + (i : Nat) * c)) else none
  | 0, lo, c, i => by simp [rngC, nth]
  | n + 1, lo, c, 0 => by simp [rngC, nth]
  | n + 1, lo, c, i + 1 => by
    show nth (rngC (lo + c) c n) i = _
    rw [nth_rngC n (lo + c) c i]
    by_cases h : i < n
    · rw [if_pos h, if_pos (by omega)]
      congr 2
      have : ((i + 1 : Nat) : Int) * c = (i : Int) * c + c := by
        rw [show ((i + 1 : Nat) : Int) = (i : Int) + 1 by omega, Int.add_mul, Int.one_mul]
      omega
    · rw [if_neg h, if_neg (by omega)]
theorem itok_rng {F : Hp} {ρ : List Addr} {lo : Int} {n : Nat} : ItOk T F ρ (.seq (rngUp lo n)) (L2.Itr lo n) := by
  intro i F' ρ' st H l m r
  have hx : nxt (.seq (rngUp lo n)) st i = (match nth (rngUp lo n) i with | some x => Nxt.item x | none => stopAt i (rngUp lo n).length) := rfl
  rw [hx, nth_rngUp]
  by_cases h : i < n
  · rw [if_pos h]
    refine ⟨h, fun x H' ⟨e, hx⟩ => ?_⟩
    subst e hx
    exact ⟨F', Step.refl, r, rfl⟩
  · rw [if_neg h]
    exact stop_match fun _ => Nat.le_of_not_lt h
theorem itok_rngC {F : Hp} {ρ : List Addr} {lo c : Int} {n : Nat} : ItOk T F ρ (.seq (rngC lo c n)) (Itc lo c n) := by
  intro i F' ρ' st H l m r
  have hx : nxt (.seq (rngC lo c n)) st i = (match nth (rngC lo c n) i with | some x => Nxt.item x | none => stopAt i (rngC lo c n).length) := rfl
  rw [hx, nth_rngC]
  by_cases h : i < n
  · rw [if_pos h]
    refine ⟨h, fun x H' ⟨e, hx⟩ => ?_⟩
    subst e hx
    exact ⟨F', Step.refl, r, rfl⟩
  · rw [if_neg h]
    exact stop_match fun _ => Nat.le_of_not_lt h
theorem evW_1 {a' : E} {env : Env} {st : St} {w : W} {st1 : St} (h : ev cl a' env st = some (w, st1)) : evW cl [a'] env st = some ([w], st1) := by
  simp only [evW, h]
theorem evW_2 {a' b' : E} {env : Env} {st : St} {w u : W} {st1 st2 : St} (h : ev cl a' env st = some (w, st1)) (h2 : ev cl b' env st1 = some (u, st2)) : evW cl [a', b'] env st = some ([w, u], st2) := by
  simp only [evW, h, h2]
theorem evW_3 {a' b' c' : E} {env : Env} {st : St} {w u x : W} {st1 st2 st3 : St} (h : ev cl a' env st = some (w, st1)) (h2 : ev cl b' env st1 = some (u, st2)) (h3 : ev cl c' env st2 = some (x, st3)) : evW cl [a', b', c'] env st = some ([w, u, x], st3) := by
  simp only [evW, h, h2, h3]
theorem rng1_step {a' : E} {σ : L2.St} {H : Hp} {R : It → Hp → Prop} (h : tIv T (evF cl (.rng1 a')) σ H R) : iRng1 (tWs T (evW cl [a'])) σ H R := by
  obtain ⟨F, ρ, env, st, it, st', r, hE, e1, fin⟩ := h
  simp only [evF] at e1
  split at e1
  · rename_i i st1 h1
    split at e1
    · rename_i hc
      cases e1
      rw [Bool.and_eq_true] at hc
      have hs := small_le hc.1
      refine ⟨F, ρ, env, st, _, _, r, hE, evW_1 h1, fun F' ρ' H' vs s' r' hw => ?_⟩
      obtain ⟨v, t, rfl, hv, ht⟩ := hw
      cases ht
      cases (show v = .int i from hv)
      exact ⟨i, rfl, by omega, by omega, fin F' ρ' H' _ s' r' itok_rng⟩
    · cases e1
  · cases e1
theorem rng2_step {a' b' : E} {σ : L2.St} {H : Hp} {R : It → Hp → Prop} (h : tIv T (evF cl (.rng2 a' b')) σ H R) : iRng2 (tWs T (evW cl [a', b'])) σ H R := by
  obtain ⟨F, ρ, env, st, it, st', r, hE, e1, fin⟩ := h
  simp only [evF] at e1
  split at e1
  · rename_i i st1 h1
    split at e1
    · rename_i j st2 h2
      split at e1
      · rename_i hc
        cases e1
        rw [Bool.and_eq_true, Bool.and_eq_true] at hc
        have hi := small_le hc.1.1
        have hj := small_le hc.1.2
        refine ⟨F, ρ, env, st, _, _, r, hE, evW_2 h1 h2, fun F' ρ' H' vs s' r' hw => ?_⟩
        obtain ⟨v, t, rfl, hv, u, t2, rfl, hu, ht⟩ := hw
        cases ht
        cases (show v = .int i from hv)
        cases (show u = .int j from hu)
        exact ⟨i, j, rfl, ⟨by omega, by omega, by omega, by omega⟩, fin F' ρ' H' _ s' r' itok_rng⟩
      · cases e1
    · cases e1
  · cases e1
theorem rngLen_eq {i j k : Int} (hk : k ≠ 0) : Builtin.Range.rangeSize i j k = (rngLen i j k : Int) := by
  unfold Builtin.Range.rangeSize
  cases k with
  | ofNat c =>
    cases c with
    | zero => exact absurd rfl hk
    | succ c =>
      rw [if_pos (show (Int.ofNat (c + 1)) > 0 from by show (0 : Int) < ((c + 1 : Nat) : Int); omega)]
      show _ = (((((j - i) + (((c + 1 : Nat) : Int) - 1)) / ((c + 1 : Nat) : Int)).toNat : Nat) : Int)
      show (if i < j then (j - i - 1) / ((c + 1 : Nat) : Int) + 1 else 0) = _
      generalize hm : ((c + 1 : Nat) : Int) = m
      have hm0 : 0 < m := by omega
      have e : (j - i) + (m - 1) = (j - i - 1) + m * 1 := by omega
      rw [e, Int.add_mul_ediv_left _ _ (by omega)]
      by_cases h : i < j
      · rw [if_pos h]
        have : 0 ≤ (j - i - 1) / m := Int.ediv_nonneg (by omega) (by omega)
        omega
      · rw [if_neg h]
        have : (j - i - 1) / m < 0 := Int.ediv_neg_of_neg_of_pos (by omega) hm0
        omega
  | negSucc c =>
    rw [if_neg (show ¬ (Int.negSucc c > 0) from by have := Int.negSucc_lt_zero c; omega)]
    show (if i > j then (i - j - 1) / (-(Int.negSucc c)) + 1 else 0) = ((((i - j) + ((-(Int.negSucc c)) - 1)) / (-(Int.negSucc c))).toNat : Int)
    have hm0 : 0 < -(Int.negSucc c) := by have := Int.negSucc_lt_zero c; omega
    generalize -(Int.negSucc c) = m at hm0
    have e : (i - j) + (m - 1) = (i - j - 1) + m * 1 := by omega
    rw [e, Int.add_mul_ediv_left _ _ (by omega)]
    by_cases h : i > j
    · rw [if_pos h]
      have : 0 ≤ (i - j - 1) / m := Int.ediv_nonneg (by omega) (by omega)
      omega
    · rw [if_neg h]
      have : (i - j - 1) / m < 0 := Int.ediv_neg_of_neg_of_pos (by omega) hm0
      omega
theorem rgC_ok {i j k : Int} (hi : small i = true) (hj : small j = true) (hk : k.natAbs < 1000000) (h0 : k ≠ 0) (hn : rngLen i j k ≤ MAXL) : RgC i j k (rngLen i j k) := by
  have e := rngLen_eq (i := i) (j := j) h0
  have h1 := small_le hi
  have h2 := small_le hj
  have h3 : MAXL = 100000 := rfl
  refine ⟨h0, by omega, ?_, e⟩
  unfold Builtin.Range.small
  rw [e]
  simp only [Builtin.Range.rangeFitsLong, Bool.and_eq_true, Bool.or_eq_true, decide_eq_true_eq]
  refine ⟨⟨⟨⟨?_, ?_⟩, ?_⟩, ?_⟩, .inr ?_⟩
  · omega
  · omega
  · omega
  · omega
  · split <;> (simp only [Bool.and_eq_true, decide_eq_true_eq]; omega)
theorem rng3_step {a' b' c' : E} {σ : L2.St} {H : Hp} {R : It → Hp → Prop} (h : tIv T (evF cl (.rng3 a' b' c')) σ H R) : iRng3 (tWs T (evW cl [a', b', c'])) σ H R := by
  obtain ⟨F, ρ, env, st, it, st', r, hE, e1, fin⟩ := h
  simp only [evF] at e1
  split at e1
  · rename_i i st1 h1
    split at e1
    · rename_i j st2 h2
      split at e1
      · rename_i k st3 h3
        split at e1
        · rename_i hc
          cases e1
          simp only [Bool.and_eq_true, Bool.not_eq_true'] at hc
          obtain ⟨⟨⟨⟨hi, hj⟩, hk⟩, h0⟩, hn⟩ := hc
          have h0' : k ≠ 0 := fun z => by rw [z] at h0; rw [ieq_eq] at h0; simp at h0
          have hk' : k.natAbs < 1000000 := by
            have hk2 : k.natAbs ≤ 999999 := by simpa [Nat.blt] using hk
            omega
          refine ⟨F, ρ, env, st, _, _, r, hE, evW_3 h1 h2 h3, fun F' ρ' H' vs s' r' hw => ?_⟩
          obtain ⟨v, t, rfl, hv, u, t2, rfl, hu, x, t3, rfl, hx, ht⟩ := hw
          cases ht
          cases (show v = .int i from hv)
          cases (show u = .int j from hu)
          cases (show x = .int k from hx)
          exact ⟨i, j, k, rngLen i j k, rfl, rgC_ok hi hj hk' h0' (Nat.le_of_ble_eq_true hn), fin F' ρ' H' _ s' r' itok_rngC⟩
        · cases e1
      · cases e1
    · cases e1
  · cases e1
variable {a b c : Expr} {a' b' c' : E} {p pos : Pos}
theorem plain1 {a : Expr} (h : plainE a = true) (env : PySem.Env) : starEach [a] env = [(false, eval a env)] := starEach_plain h [] env
theorem plain2 {a b : Expr} (h : plainE a = true) (h2 : plainE b = true) (env : PySem.Env) : starEach [a, b] env = [(false, eval a env), (false, eval b env)] := by
  rw [starEach_plain h, plain1 h2]
theorem pi_rng1 (hg : Gl X "range") (hm : X.mg "range" = none) (pa : plainE a = true) (ha : PE X a (tEv T (ev cl a'))) : PI X tg (.Call (.Name "range" p) [a] [] pos) (tIv T (evF cl (.rng1 a'))) :=
  (pi_range1 hg hm (pa_W1 pa ha pa_W0) (plain1 pa X.env)).mono fun _ _ _ h => rng1_step h
theorem pi_rng2 (hg : Gl X "range") (hm : X.mg "range" = none) (pa : plainE a = true) (pb : plainE b = true) (ha : PE X a (tEv T (ev cl a'))) (hb : PE X b (tEv T (ev cl b'))) : PI X tg (.Call (.Name "range" p) [a, b] [] pos) (tIv T (evF cl (.rng2 a' b'))) :=
  (pi_range2 hg hm (pa_W1 pa ha (pa_W1 pb hb pa_W0)) (plain2 pa pb X.env) (plain1 pb X.env)).mono fun _ _ _ h => rng2_step h
theorem pi_rng3 (hg : Gl X "range") (hm : X.mg "range" = none) (pa : plainE a = true) (pb : plainE b = true) (pc : plainE c = true) (ha : PE X a (tEv T (ev cl a'))) (hb : PE X b (tEv T (ev cl b'))) (hc : PE X c (tEv T (ev cl c'))) : PI X tg (.Call (.Name "range" p) [a, b, c] [] pos) (tIv T (evF cl (.rng3 a' b' c'))) :=
  (pi_range3 hg hm (pa_W1 pa ha (pa_W1 pb hb (pa_W1 pc hc pa_W0))) (starEach_plain pa _ X.env) (by rw [plain2 pb pc]; rfl)).mono fun _ _ _ h => rng3_step h
end
end Rf
/-! Rf25: sources of enumerate and zip: lists, tuples, texts. -/
namespace Rf
open PySem PySem.Spec PyProof.Rows L2 PySem.W
open AutoSeq1 (wpAny_loadPart')
/-- enumerate(v), whatever v's iterator is -/
theorem enum_new1 {v : Value} {o : Obj} {Hh : Heap → Prop} (B : Begins v o Hh) :
    Meets (Builtin.«enumerate.__new__» ⟨[.type "enumerate", v], []⟩) (fun _ R s => Hh s.heap ∧
      R (.ok (.ret (.ref (s.heap.push o).objs.size)))
        { s with heap := (s.heap.push o).push { cls := .type "enumerate", data := .fields #[.none, .bool false, .ref s.heap.objs.size, rawInt 0, .none, .none] } }) :=
  .of_wp fun prog w A R s h => by
    obtain ⟨hp, g, d, tk, os⟩ := s
    obtain ⟨h1, h⟩ := h
    have hsub := sub_enumerate
    have q1 : ∀ {A' : Around} {E : Value → Shared → Prop} {Q : Value → Shared → Prop}, Q (.ref hp.objs.size) ⟨(hp.push o), g, d, tk, os⟩ → wpAny (model prog w) A' (pyIter v) Q E ⟨hp, g, d, tk, os⟩ :=
      fun q => B.iter prog w _ _ ⟨hp, g, d, tk, os⟩ _ (B.keeps _ _ h1 fun b o' e => e) q
    wp_walk
    refine wpAny_stack_any fun st => wpAny_pure ?_
    split
    · rename_i c _ _ _ _ _
      cases (c == Value.type "enumerate")
      · wp_walk using q1
        exact ⟨_, rfl, h⟩
      · wp_walk using q1
        exact ⟨_, rfl, h⟩
    · wp_walk using q1
      exact ⟨_, rfl, h⟩
section
variable {prog : Program} {w : World} {A : Around} {E : Value → Shared → Prop} {s : Shared}
theorem enum1_begins {v : Value} {o : Obj} {Hh : Heap → Prop} {Q : Value → Shared → Prop} (B : Begins v o Hh) (h1 : Hh s.heap)
    (h : ∀ h', IsEnum h' (s.heap.objs.size + 1) s.heap.objs.size 0 .none → h'.get? s.heap.objs.size = some o →
      (∀ b ob, s.heap.get? b = some ob → h'.get? b = some ob) → Q (.ref (s.heap.objs.size + 1)) { s with heap := h' }) :
    wpAny (model prog w) A (call (.type "enumerate") [v]) Q E s := by
  refine callType_new PySem.F.called_enumerate (by decide) (PySem.F.typeCall_enumerate_1 _) (PySem.F.newCall_enumerate_1 _) (fun obj => PySem.F.args_object_init_2 obj _) PySem.F.entry_enumerate_new (enum_new1 B) ⟨h1, ?_⟩
  have hz : (s.heap.push o).objs.size = s.heap.objs.size + 1 := Heap.size_push ..
  show _ ∧ _
  rw [hz]
  have he : IsEnum ((s.heap.push o).push { cls := .type "enumerate", data := .fields #[.none, .bool false, .ref s.heap.objs.size, rawInt 0, .none, .none] }) (s.heap.objs.size + 1) s.heap.objs.size 0 .none := by
    have := Heap.get?_push_size (s.heap.push o) (o := { cls := .type "enumerate", data := .fields #[.none, .bool false, .ref s.heap.objs.size, rawInt 0, .none, .none] }) rfl
    rw [hz] at this; exact this
  exact ⟨⟨_, he, rfl⟩, h _ he (Heap.get?_push_of_some _ (Heap.get?_push_size _ B.free)) fun b o x => Heap.get?_push_of_some _ (Heap.get?_push_of_some _ x)⟩
end
/-- a source: u's items as they stand at each turn; tn: its iterator -/
structure SrcR (P : Program) (w : World) (K : PySem.W.Frag) (u : Value) (o : Obj) (its : Hp → List V → Prop) (tn : Addr → Nat → Heap → Prop) : Prop where
  beg : ∀ (X : Cx), X.prog = P → X.w = w → X.K = K → ∀ (pins : List (Addr × Obj)) (σ : L2.St) (H : Hp) (s : Shared) (xs : List V), Inv X pins σ H s → its H xs → ∃ Hh : Heap → Prop, Begins u o Hh ∧ Hh s.heap
  st0 : ∀ (h : Heap) (it : Addr), h.get? it = some o → tn it 0 h
  obj : ∀ (it : Addr) (i : Nat) (h : Heap), tn it i h → ∃ ob, h.get? it = some ob ∧ ∀ v, ob.data ≠ .cell v
  keep : ∀ (it : Addr) (i : Nat) (h h' : Heap), tn it i h → (∀ ob, h.get? it = some ob → h'.get? it = some ob) → tn it i h'
  inj : ∀ (H : Hp) (xs ys : List V), its H xs → its H ys → xs = ys
  draws : ∀ (X : Cx), X.prog = P → X.w = w → X.K = K → X.calm = true → ∀ (pins : List (Addr × Obj)) (σ : L2.St) (H : Hp) (s : Shared) (xs : List V) (it : Addr) (i : Nat), Inv X pins σ H s → its H xs → tn it i s.heap → H it = none →
    ∃ (n : Nat) (fp : List Addr) (Pv : Nat → Value → Prop) (St : Nat → Heap → Prop), n = xs.length ∧ Draws P w X.A.in1 it (it :: fp) n Pv St ∧ (∀ b ∈ fp, H b ≠ none) ∧ St i s.heap ∧ (∀ (j : Nat) (h' : Heap), St j h' → tn it j h') ∧ ∀ (j : Nat) (v : Value), Pv j v → ∃ x, xs[j]? = some x ∧ RelV x v
theorem vals_at {xs : List V} {us : List Value} (r : Vals xs us) {j : Nat} {v : Value} (h : us.toArray[j]? = some v) : ∃ x, xs[j]? = some x ∧ RelV x v := Vals.back r (by simpa using h)
theorem src_list {P : Program} {w : World} {K : PySem.W.Frag} (a : Addr) : SrcR P w K (.ref a) { cls := .type "list_iterator", data := .fields #[.ref a, .int 0 0] } (fun H xs => H a = some (.lst xs)) (fun it i h => h.IsListIter it a i) where
  beg := fun X hP hw hK pins σ H s xs I h => by
    obtain ⟨its, rv, p, hz⟩ := I.list (SqL.of h)
    exact ⟨_, begins_list a its.toArray, p.isList⟩
  st0 := fun h it e => ⟨_, e, rfl, rfl⟩
  obj := fun it i h st => by
    obtain ⟨o, e, c, d⟩ := st
    exact ⟨o, e, fun v z => by rw [d] at z; cases z⟩
  keep := fun it i h h' st k => st.at fun o e => k o e
  inj := fun H xs ys h1 h2 => by rw [h1] at h2; cases h2; rfl
  draws := fun X hP hw hK hc pins σ H s xs it i I h st hn => by
    subst hP hw hK
    obtain ⟨its, rv, p, hz⟩ := I.list (SqL.of h)
    have hne : a ≠ it := fun z => by rw [z, hn] at h; cases h
    exact ⟨its.toArray.size, [a], _, _, by rw [List.size_toArray]; exact rv.length.symm, Draws.list (show X.A.in1.handled = none from I.ok.hd hc) it a hne its.toArray, (fun b hb z => by rw [List.mem_singleton.mp hb, h] at z; cases z), ⟨st, p.isList⟩, fun j h' q => q.1, fun j v q => vals_at rv q⟩
theorem src_tup {P : Program} {w : World} {K : PySem.W.Frag} (a : Addr) : SrcR P w K (.ref a) { cls := .type "tuple_iterator", data := .fields #[.ref a, .int 0 0] } (fun H xs => Rd H a (.tup xs)) (fun it i h => h.IsTupleIter it a i) where
  beg := fun X hP hw hK pins σ H s xs I h => by
    obtain ⟨its, rv, p, hz⟩ := I.tuple (.inl h)
    exact ⟨_, begins_tuple a its.toArray, p⟩
  st0 := fun h it e => ⟨_, e, rfl, rfl⟩
  obj := fun it i h st => by
    obtain ⟨o, e, c, d⟩ := st
    exact ⟨o, e, fun v z => by rw [d] at z; cases z⟩
  keep := fun it i h h' st k => st.at fun o e => k o e
  inj := fun H xs ys h1 h2 => by
    rcases h1 with h1 | ⟨o, h1⟩ <;> rcases h2 with h2 | ⟨o2, h2⟩ <;> (rw [h1] at h2; cases h2) <;> rfl
  draws := fun X hP hw hK hc pins σ H s xs it i I h st hn => by
    subst hP hw hK
    obtain ⟨its, rv, p, hz⟩ := I.tuple (.inl h)
    have ha : H a ≠ none := fun z => by rcases h with h | ⟨o, h⟩ <;> (rw [h] at z; cases z)
    have hne : a ≠ it := fun z => ha (by rw [z]; exact hn)
    exact ⟨its.toArray.size, [a], _, _, by rw [List.size_toArray]; exact rv.length.symm, Draws.tuple (show X.A.in1.handled = none from I.ok.hd hc) it a hne its.toArray, (fun b hb => by rw [List.mem_singleton.mp hb]; exact ha), ⟨st, p⟩, fun j h' q => q.1, fun j v q => vals_at rv q⟩
def chV (z : List Nat) : List V := z.map fun c => .str ⟨#[c]⟩
theorem src_str {P : Program} {w : World} {K : PySem.W.Frag} (z : List Nat) (t : Tok) : SrcR P w K (.str ⟨z.toArray⟩ t) { cls := .type (strIterType ⟨z.toArray⟩), data := .fields #[.str ⟨z.toArray⟩ t, .int 0 0] } (fun H xs => xs = chV z) (fun it i h => h.IsStrIter it (strIterType ⟨z.toArray⟩) ⟨z.toArray⟩ t i) where
  beg := fun X hP hw hK pins σ H s xs I h => ⟨_, begins_text ⟨z.toArray⟩ t, trivial⟩
  st0 := fun h it e => ⟨_, e, rfl, rfl⟩
  obj := fun it i h st => by
    obtain ⟨o, e, c, d⟩ := st
    exact ⟨o, e, fun v z => by rw [d] at z; cases z⟩
  keep := fun it i h h' st k => by
    obtain ⟨o, e, c, d⟩ := st
    exact ⟨o, k o e, c, d⟩
  inj := fun H xs ys h1 h2 => h1.trans h2.symm
  draws := fun X hP hw hK hc pins σ H s xs it i I h st hn => by
    subst hP hw hK h
    refine ⟨_, [], _, _, ?_, Draws.text (show X.A.in1.handled = none from I.ok.hd hc) it ⟨z.toArray⟩ t, (fun b hb => by cases hb), st, fun j h' q => q, fun j v ⟨c, u, hc, hv⟩ => ⟨.str ⟨#[c]⟩, ?_, u, hv⟩⟩
    · simp [chV]
    · have hc' : z[j]? = some c := by simpa using hc
      rw [chV, List.getElem?_map, hc']
      rfl
/-! ### rows -/
/-- new tuples, as the rows stand at each turn -/
def ItG (rows : Hp → List (List V) → Prop) : It :=
  ⟨fun i H => ∃ xs x, rows H xs ∧ xs[i]? = some x, fun i H v H' => ∃ p x, v = .ref p ∧ H p = none ∧ H' = upd H p (.tup x) ∧ ∀ xs, rows H xs → xs[i]? = some x, fun i H => ∃ xs, rows H xs ∧ xs.length = i⟩
theorem turn_rows {P : Program} {w : World} {K : PySem.W.Frag} {tg : Expr} {rows : Hp → List (List V) → Prop} {fp : List Addr} {e : Addr} {tn : Nat → Heap → Prop} (mem : e ∈ fp)
    (obj : ∀ i h, tn i h → ∀ b ∈ fp, ∃ o, h.get? b = some o ∧ ∀ v, o.data ≠ .cell v) (keep : ∀ i h h', tn i h → (∀ b ∈ fp, ∀ o, h.get? b = some o → h'.get? b = some o) → tn i h')
    (inj : ∀ (H : Hp) (xs ys : List (List V)), rows H xs → rows H ys → xs = ys)
    (go : ∀ (X : Cx), X.prog = P → X.w = w → X.K = K → X.calm = true → ∀ (pins : List (Addr × Obj)) (σ : L2.St) (H : Hp) (s : Shared) (i : Nat) (xs : List (List V)), Inv X pins σ H s → (∀ b ∈ fp, H b = none) → tn i s.heap → rows H xs →
      ∃ (n : Nat) (fp' wr : List Addr) (St : Nat → Heap → Prop) (Y : Nat → Heap → Value → Heap → Prop), n = xs.length ∧ GoesN P w X.A tg e fp' wr n Y St ∧ (∀ b ∈ wr, b ∈ fp) ∧ St i s.heap ∧ (∀ (j : Nat) (h : Heap), St j h → tn j h) ∧
        ∀ (h0 : Heap) (v : Value) (h : Heap), Y i h0 v h → ∃ p vals x, v = .ref p ∧ h0.objs.size ≤ p ∧ h.IsTuple p (List.toArray vals) ∧ Vals x vals ∧ xs[i]? = some x ∧ x.length ≤ sizeLine)
    (self : ∀ (A : Around) (i : Nat) (s : Shared) (Q : Value → Shared → Prop) (E : Value → Shared → Prop), tn i s.heap → Q (.ref e) s → wpAny (model P w) A (pyIter (.ref e)) Q E s) :
    Turn P w K tg (ItG rows) fp e tn where
  mem := mem
  obj := obj
  keep := keep
  item := by
    intro X hP hw hK hc i pins s σ H E I hf st hg
    obtain ⟨xs, x, hx, hi⟩ := hg
    obtain ⟨n, fp', wr, St, Y, en, G, hwr, hst, htn, hY⟩ := go X hP hw hK hc pins σ H s i xs I (fun b hb => (hf b hb).1) st hx
    have hlt : i < n := by rw [en]; exact (List.getElem?_eq_some_iff.mp hi).1
    refine G.goes i s _ E hlt hst fun v h' tk y st' hk htk => ?_
    obtain ⟨p, vals, x', rfl, hp, hT, rv, hx', hz⟩ := hY s.heap v h' y
    have hpn : H p = none := I.hok.fresh hp
    have new : ObjOk X.prog X.w (upd H p (.tup x')) h' p (.tup x') := ⟨hz, vals, rv, hT⟩
    have I1 : Inv X pins σ (upd H p (.tup x')) { s with heap := h', toks := tk } := I.turnedNew (t' := tk) (ch := wr) (fun b o hb q => hk b o hb q) (fun b hb => hf b (hwr b hb)) hp new
    refine ⟨.ref p, _, I1, rfl, ⟨p, x', rfl, hpn, rfl, fun ys hy => by rw [inj H ys xs hy hx]; exact hx'⟩, htn _ _ st', fun b hb => ?_⟩
    obtain ⟨o, ho, _⟩ := obj i s.heap st b hb
    rw [upd_ne (Nat.ne_of_lt (Nat.lt_of_lt_of_le (Heap.lt_size ho) hp))]
    exact (hf b hb).1
  done := by
    intro X hP hw hK hc i pins s σ H E I hf st hg
    obtain ⟨xs, hx, hi⟩ := hg
    obtain ⟨n, fp', wr, St, Y, en, G, hwr, hst, htn, hY⟩ := go X hP hw hK hc pins σ H s i xs I (fun b hb => (hf b hb).1) st hx
    have e0 : i = n := by rw [en, hi]
    subst e0
    exact G.stops s _ E hst fun h' tk hk htk => I.turnedL (t' := tk) (ch := wr) (fun b o hb q => hk b o hb q) fun b hb => hf b (hwr b hb)
  self := self
end Rf
/-! Rf26: enumerate, zip. -/
namespace Rf
open PySem PySem.Spec PyProof.Rows L2 PySem.W
def enV : Nat → List V → List (List V)
  | _, [] => []
  | k, y :: r => [.int k, y] :: enV (k + 1) r
theorem enV_at : ∀ (ys : List V) (k i : Nat), (enV k ys)[i]? = (ys[i]?).map fun y => [.int ((k + i : Nat) : Int), y]
  | [], k, i => by simp [enV]
  | y :: r, k, 0 => by simp [enV]
  | y :: r, k, i + 1 => by
    show (enV (k + 1) r)[i]? = _
    rw [enV_at r (k + 1) i]
    simp only [List.getElem?_cons_succ]
    congr 2
    rw [show k + 1 + i = k + (i + 1) by omega]
theorem enV_len : ∀ (ys : List V) (k : Nat), (enV k ys).length = ys.length
  | [], k => rfl
  | y :: r, k => by simp [enV, enV_len r (k + 1)]
def rowsE (its : Hp → List V → Prop) : Hp → List (List V) → Prop := fun H xs => ∃ ys, its H ys ∧ xs = enV 0 ys
def zpV : List V → List V → List (List V)
  | x :: r, y :: t => [x, y] :: zpV r t
  | _, _ => []
theorem zpV_at : ∀ (xs ys : List V) (i : Nat) (x y : V), xs[i]? = some x → ys[i]? = some y → (zpV xs ys)[i]? = some [x, y]
  | a :: xs, b :: ys, 0, x, y, h1, h2 => by
    simp at h1 h2
    subst h1 h2
    simp [zpV]
  | a :: xs, b :: ys, i + 1, x, y, h1, h2 => by
    show (zpV xs ys)[i]? = _
    exact zpV_at xs ys i x y (by simpa using h1) (by simpa using h2)
  | [], _, i, x, y, h1, h2 => by simp at h1
  | _ :: _, [], i, x, y, h1, h2 => by simp at h2
theorem zpV_len : ∀ (xs ys : List V), (zpV xs ys).length = min xs.length ys.length
  | [], ys => by simp [zpV]
  | a :: xs, [] => by simp [zpV]
  | a :: xs, b :: ys => by
    simp only [zpV, List.length_cons, zpV_len xs ys]
    omega
def rowsZ (its1 its2 : Hp → List V → Prop) : Hp → List (List V) → Prop := fun H xs => ∃ ys zs, its1 H ys ∧ its2 H zs ∧ xs = zpV ys zs
theorem three_le : 3 ≤ sizeLine := by rw [sizeLine_eq]; decide
theorem ne5 (n : Nat) : n + 2 ≠ n + 4 ∧ n + 3 ≠ n + 4 ∧ n + 2 ≠ n + 3 ∧ n + 2 ≠ n ∧ n + 2 ≠ n + 1 ∧ n + 4 ≠ n ∧ n + 4 ≠ n + 1 ∧ n + 3 ≠ n ∧ n + 3 ≠ n + 1 ∧ n ≠ n + 1 := by omega
section
variable {P : Program} {w : World} {K : PySem.W.Frag} {u u2 : Value} {o o2 : Obj} {its its2 : Hp → List V → Prop} {tn tn2 : Addr → Nat → Heap → Prop} {elts : List Expr} {kk : Nat} {tpos : Pos}
theorem turn_en (B : SrcR P w K u o its tn) {e it : Addr} (hei : e ≠ it) : Turn P w K (.Tuple elts kk tpos) (ItG (rowsE its)) [e, it] e (fun i h => (∃ old, IsEnum h e it (0 + ((i : Nat) : Int)) old) ∧ tn it i h) := by
  refine turn_rows (by simp) (fun i h st b hb => ?_) (fun i h h' st k => ?_) (fun H xs ys hx hy => ?_) (fun X hP hw hK hc pins σ H s i xs I hf st hx => ?_) fun A i s Q E st h => ?_
  · obtain ⟨⟨old, he⟩, hi⟩ := st
    have e' : b = e ∨ b = it := by simpa using hb
    rcases e' with z | z
    · rw [z]; exact ⟨_, he, fun v q => nomatch q⟩
    · rw [z]; exact B.obj it i h hi
  · obtain ⟨⟨old, he⟩, hi⟩ := st
    exact ⟨⟨old, k e (by simp) _ he⟩, B.keep it i h h' hi fun ob q => k it (by simp) ob q⟩
  · obtain ⟨ys', h1, rfl⟩ := hx
    obtain ⟨zs', h2, rfl⟩ := hy
    rw [B.inj H _ _ h1 h2]
  · obtain ⟨⟨old, he⟩, hi⟩ := st
    obtain ⟨ys, hy, rfl⟩ := hx
    have fe : H e = none := hf e (by simp)
    have fi : H it = none := hf it (by simp)
    obtain ⟨n, fp, Pv, St, en, D, hfp, hst, htn, hpv⟩ := B.draws X hP hw hK hc pins σ H s ys it i I hy hi fi
    have hef : e ∉ it :: fp := fun hm => by
      rcases List.mem_cons.mp hm with z | z
      · exact hei z
      · exact hfp e z fe
    refine ⟨n, _, _, _, _, by rw [enV_len]; exact en, GoesN.enumFrom 0 D e hei hef (by simp), fun b hb => hb, ⟨⟨old, he⟩, hst⟩, fun j h q => ⟨q.1, htn j h q.2⟩, fun h0 v h hY => ?_⟩
    obtain ⟨p, t, x, rfl, hp, hx, hT⟩ := hY
    obtain ⟨y, hy2, ry⟩ := hpv i x hx
    refine ⟨p, [.int (0 + (i : Int)) t, x], [.int (i : Nat), y], rfl, hp, hT, .cons ⟨t, by rw [Int.zero_add]⟩ (.cons ry .nil), ?_, Nat.le_trans (show 2 ≤ 3 by decide) three_le⟩
    rw [enV_at, hy2, Nat.zero_add]
    rfl
  · obtain ⟨⟨old, he⟩, hi⟩ := st
    exact wpAny_pyIter_enum he h
theorem turn_zp (B : SrcR P w K u o its tn) (B2 : SrcR P w K u2 o2 its2 tn2) {z TI TO i1 i2 : Addr} (d1 : TI ≠ z) (d2 : TO ≠ z) (d3 : TI ≠ TO) (d4 : TI ≠ i1) (d5 : TI ≠ i2) (d6 : z ≠ i1) (d7 : z ≠ i2) (d8 : TO ≠ i1) (d9 : TO ≠ i2) (d10 : i1 ≠ i2) :
    Turn P w K (.Tuple elts kk tpos) (ItG (rowsZ its its2)) [z, TI, TO, i1, i2] z (fun i h => IsZip h z TI TO .none ∧ IsTupOf2 h TI (.ref i1) (.ref i2) ∧ (∃ a1 a2, IsTupOf2 h TO a1 a2) ∧ tn i1 i h ∧ tn2 i2 i h) := by
  refine turn_rows (by simp) (fun i h st b hb => ?_) (fun i h h' st k => ?_) (fun H xs ys hx hy => ?_) (fun X hP hw hK hc pins σ H s i xs I hf st hx => ?_) fun A i s Q E st h => ?_
  · obtain ⟨hz, hTI, ⟨a1, a2, hTO⟩, h1, h2⟩ := st
    have e' : b = z ∨ b = TI ∨ b = TO ∨ b = i1 ∨ b = i2 := by simpa using hb
    rcases e' with q | q | q | q | q
    · rw [q]; exact ⟨_, hz, fun v q => nomatch q⟩
    · rw [q]; exact ⟨_, hTI, fun v q => nomatch q⟩
    · rw [q]; exact ⟨_, hTO, fun v q => nomatch q⟩
    · rw [q]; exact B.obj i1 i h h1
    · rw [q]; exact B2.obj i2 i h h2
  · obtain ⟨hz, hTI, ⟨a1, a2, hTO⟩, h1, h2⟩ := st
    exact ⟨k z (by simp) _ hz, k TI (by simp) _ hTI, ⟨a1, a2, k TO (by simp) _ hTO⟩, B.keep i1 i h h' h1 fun ob q => k i1 (by simp) ob q, B2.keep i2 i h h' h2 fun ob q => k i2 (by simp) ob q⟩
  · obtain ⟨ys1, ys2, h1, h2, rfl⟩ := hx
    obtain ⟨zs1, zs2, h3, h4, rfl⟩ := hy
    rw [B.inj H _ _ h1 h3, B2.inj H _ _ h2 h4]
  · obtain ⟨hz, hTI, hTO, h1, h2⟩ := st
    obtain ⟨ys1, ys2, hy1, hy2, rfl⟩ := hx
    have fz : H z = none := hf z (by simp)
    have fT : H TO = none := hf TO (by simp)
    have f1 : H i1 = none := hf i1 (by simp)
    have f2 : H i2 = none := hf i2 (by simp)
    obtain ⟨n1, fp1, Pv1, St1, en1, D1, hfp1, hst1, htn1, hpv1⟩ := B.draws X hP hw hK hc pins σ H s ys1 i1 i I hy1 h1 f1
    obtain ⟨n2, fp2, Pv2, St2, en2, D2, hfp2, hst2, htn2, hpv2⟩ := B2.draws X hP hw hK hc pins σ H s ys2 i2 i I hy2 h2 f2
    have notin : ∀ (fp : List Addr) (b c : Addr), (∀ b ∈ fp, H b ≠ none) → H b = none → b ≠ c → b ∉ c :: fp := fun fp b c h hb hne hm => by
      rcases List.mem_cons.mp hm with q | q
      · exact hne q
      · exact h b q hb
    have S : ZipSep2 z TI TO i1 i2 (i1 :: fp1) (i2 :: fp2) := ⟨d1, d2, d3, d4, by simp, notin _ _ _ hfp1 fz d6, notin _ _ _ hfp1 fT d8, d5, by simp, notin _ _ _ hfp2 fz d7, notin _ _ _ hfp2 fT d9, notin _ _ _ hfp2 f1 d10, notin _ _ _ hfp1 f2 (Ne.symm d10)⟩
    refine ⟨min n1 n2, _, _, _, _, by rw [zpV_len, en1, en2], GoesN.zip2 S D1 D2, fun b hb => ?_, ⟨hz, hTI, hTO, hst1, hst2⟩, fun j h q => ⟨q.1, q.2.1, q.2.2.1, htn1 j h q.2.2.2.1, htn2 j h q.2.2.2.2⟩, fun h0 v h hY => ?_⟩
    · have e' : b = z ∨ b = TO ∨ b = i1 ∨ b = i2 := by simpa using hb
      rcases e' with q | q | q | q <;> simp [q]
    · obtain ⟨p, x, y, rfl, hp, hx, hy, hT⟩ := hY
      obtain ⟨a, ha, ra⟩ := hpv1 i x hx
      obtain ⟨b, hb, rb⟩ := hpv2 i y hy
      exact ⟨p, [x, y], [a, b], rfl, hp, hT, .cons ra (.cons rb .nil), zpV_at _ _ _ _ _ ha hb, Nat.le_trans (show 2 ≤ 3 by decide) three_le⟩
  · exact wpAny_pyIter_zip st.1 h
end
section
variable {X : Cx} {elts : List Expr} {kk : Nat} {tpos : Pos}
theorem enum_src {u : Value} {o : Obj} {its : Hp → List V → Prop} {tn : Addr → Nat → Heap → Prop} (B : SrcR X.prog X.w X.K u o its tn) {pins : List (Addr × Obj)} {σ : L2.St} {H : Hp} {s : Shared} {xs : List V} {R : It → Hp → Prop} (I : Inv X pins σ H s) (hx : its H xs) (q : R (ItG (rowsE its)) H) :
    wpAny (model X.prog X.w) X.A (call (.type "enumerate") [u]) (fun v s1 => wpAny (model X.prog X.w) X.A (pyIter v) (PIE X pins σ (.Tuple elts kk tpos) R) X.xe s1) X.xe s := by
  obtain ⟨Hh, Bg, hh⟩ := B.beg X rfl rfl rfl pins σ H s xs I hx
  refine enum1_begins Bg hh fun h' he hit hk => wpAny_pyIter_enum he ?_
  have I2 : Inv X pins σ H { s with heap := h' } := I.kept (t' := s.toks) hk
  refine ⟨s.heap.objs.size + 1, [s.heap.objs.size + 1, s.heap.objs.size], _, _, H, rfl, I2, turn_en B (Nat.succ_ne_self _), ⟨⟨.none, he⟩, B.st0 h' _ hit⟩, fun b hb => ?_, q⟩
  have e' : b = s.heap.objs.size + 1 ∨ b = s.heap.objs.size := by simpa using hb
  have hle : s.heap.objs.size ≤ b := by
    rcases e' with z | z <;> (rw [z]; first | exact Nat.le_refl _ | exact Nat.le_add_right _ _)
  exact I.fpOk hle (I.hok.fresh hle)
theorem zip_src {u u2 : Value} {o o2 : Obj} {its its2 : Hp → List V → Prop} {tn tn2 : Addr → Nat → Heap → Prop} (B : SrcR X.prog X.w X.K u o its tn) (B2 : SrcR X.prog X.w X.K u2 o2 its2 tn2) {pins : List (Addr × Obj)} {σ : L2.St} {H : Hp} {s : Shared} {xs ys : List V} {R : It → Hp → Prop}
    (I : Inv X pins σ H s) (hx : its H xs) (hy : its2 H ys) (q : R (ItG (rowsZ its its2)) H) :
    wpAny (model X.prog X.w) X.A (call (.type "zip") [u, u2]) (fun v s1 => wpAny (model X.prog X.w) X.A (pyIter v) (PIE X pins σ (.Tuple elts kk tpos) R) X.xe s1) X.xe s := by
  obtain ⟨Hh, Bg, hh⟩ := B.beg X rfl rfl rfl pins σ H s xs I hx
  obtain ⟨Hh2, Bg2, hh2⟩ := B2.beg X rfl rfl rfl pins σ H s ys I hy
  have q5 := ne5 s.heap.objs.size
  refine zip_begins2 Bg Bg2 hh hh2 fun h' hz hTI hTO g1 g2 hsz hk => wpAny_pyIter_zip hz ?_
  have I2 : Inv X pins σ H { s with heap := h' } := I.kept (t' := s.toks) hk
  refine ⟨s.heap.objs.size + 4, [s.heap.objs.size + 4, s.heap.objs.size + 2, s.heap.objs.size + 3, s.heap.objs.size, s.heap.objs.size + 1], _, _, H, rfl, I2,
    turn_zp B B2 q5.1 q5.2.1 q5.2.2.1 q5.2.2.2.1 q5.2.2.2.2.1 q5.2.2.2.2.2.1 q5.2.2.2.2.2.2.1 q5.2.2.2.2.2.2.2.1 q5.2.2.2.2.2.2.2.2.1 q5.2.2.2.2.2.2.2.2.2, ⟨hz, hTI, ⟨_, _, hTO⟩, B.st0 h' _ g1, B2.st0 h' _ g2⟩, fun b hb => ?_, q⟩
  have e' : b = s.heap.objs.size + 4 ∨ b = s.heap.objs.size + 2 ∨ b = s.heap.objs.size + 3 ∨ b = s.heap.objs.size ∨ b = s.heap.objs.size + 1 := by simpa using hb
  have hle : s.heap.objs.size ≤ b := by
    rcases e' with z | z | z | z | z <;> (rw [z]; first | exact Nat.le_refl _ | exact Nat.le_add_right _ _)
  exact I.fpOk hle (I.hok.fresh hle)
end
end Rf
/-! Rf27: what the evaluator says of enumerate and zip. -/
namespace Rf
open PySem PySem.Spec PyProof.Rows L2 PySem.W
def SrcOk (T : List Addr) (F : Hp) (ρ : List Addr) (src : Src) (its : Hp → List V → Prop) : Prop := ∀ (i : Nat) (F' : Hp) (ρ' : List Addr) (st : St) (H : Hp), Le F F' → (∃ more, ρ' = ρ ++ more) → Rl T F' ρ' st H →
  match srcAt st src i with
  | .item d => ∃ xs v, its H xs ∧ xs[i]? = some v ∧ RD F' d v
  | .stop => ∃ xs, its H xs ∧ xs.length = i
  | .bad => True
section
variable {X : Cx} {tg : Expr} {T : List Addr} {cl : Calls}
theorem srcok_d {F : Hp} {ρ : List Addr} {ds : List D} {vs : List V} {its : Hp → List V → Prop} (hi : ∀ F' H, Le F F' → Le F' H → its H vs) (hd : RDs F ds vs) : SrcOk T F ρ (.d ds) its := by
  intro i F' ρ' st H l m r
  have h1 := hi F' H l r.sub
  have hl := hd.length
  have hx : srcAt st (.d ds) i = (match nth ds i with | some x => Nxt.item x | none => stopAt i ds.length) := rfl
  rw [hx]
  cases hn : nth ds i with
  | none => exact stop_match (f := fun d => ∃ xs v, its H xs ∧ xs[i]? = some v ∧ RD F' d v) fun e => ⟨vs, h1, by omega⟩
  | some d =>
    obtain ⟨v, hv, rv⟩ := hd.nth hn
    exact ⟨vs, v, h1, hv, rv.le l⟩
theorem srcok_o {F : Hp} {ρ : List Addr} {n : Nat} {a : Addr} (ha : ρ[n]? = some a) : SrcOk T F ρ (.o n) (fun H xs => H a = some (.lst xs)) := by
  intro i F' ρ' st H l ⟨more, m⟩ r
  have h0 : ρ'[n]? = some a := by
    rw [m, List.getElem?_append_left (List.getElem?_eq_some_iff.mp ha).1]
    exact ha
  have q := r.look h0
  have hx : srcAt st (.o n) i = (match getO st n with | .lst ds => (match nth ds i with | some x => Nxt.item x | none => stopAt i ds.length) | _ => .bad) := rfl
  rw [hx]
  cases ho : getO st n with
  | lst ds =>
    rw [ho] at q
    obtain ⟨fa, hl⟩ := q
    obtain ⟨a', vs, e1, h1, h2⟩ := lst_at hl
    cases e1
    have hlen := h2.length
    simp only
    cases hn : nth ds i with
    | none => exact stop_match (f := fun d => ∃ xs v, H a = some (.lst xs) ∧ xs[i]? = some v ∧ RD F' d v) fun e => ⟨vs, h1, by omega⟩
    | some d =>
      obtain ⟨v, hv, rv⟩ := h2.nth hn
      exact ⟨vs, v, h1, hv, rv⟩
  | dct ks vs => trivial
  | dead => trivial
/-- a source for a value -/
def SrcAt (X : Cx) (T : List Addr) (F : Hp) (ρ : List Addr) (H : Hp) (src : Src) (u : Value) : Prop := ∃ (o : Obj) (its : Hp → List V → Prop) (tn : Addr → Nat → Heap → Prop) (xs : List V), SrcR X.prog X.w X.K u o its tn ∧ its H xs ∧ SrcOk T F ρ src its
theorem chV_rd {F : Hp} : ∀ s : List Nat, RDs F (chrs s) (chV s)
  | [] => rfl
  | c :: s => RDs.cons rfl (chV_rd s)
theorem src_at {F : Hp} {ρ : List Addr} {st : St} {H : Hp} {w : W} {v : V} {u : Value} {src : Src} (r : Rl T F ρ st H) (hw : RW F ρ w v) (ru : RelV v u) (e : srcV st w = some src) : SrcAt X T F ρ H src u := by
  cases w with
  | un => cases e
  | ref n =>
    obtain ⟨a, ha, rfl⟩ := hw
    cases ru
    have q := r.look ha
    have e : (match getO st n with | .lst _ => some (Src.o n) | _ => none) = some src := e
    cases ho : getO st n with
    | lst ds =>
      rw [ho] at q e
      cases e
      obtain ⟨a', vs, e1, h1, h2⟩ := lst_at q.2
      cases e1
      exact ⟨_, _, _, vs, src_list a, h1, srcok_o ha⟩
    | dct ks vs => rw [ho] at e; cases e
    | dead => rw [ho] at e; cases e
  | d x =>
    cases x with
    | lst ds =>
      cases e
      obtain ⟨a, vs, rfl, h1, h2⟩ := (show RD F (.lst ds) v from hw)
      cases ru
      exact ⟨_, _, _, vs, src_list a, r.sub a _ h1, srcok_d (fun F' H l s => s a _ (l a _ h1)) h2⟩
    | tup k ds =>
      cases e
      obtain ⟨a, vs, rfl, h1, h2⟩ := (show RD F (.tup k ds) v from hw)
      cases ru
      exact ⟨_, _, _, vs, src_tup a, (h1.le r.sub).rd, srcok_d (fun F' H l s => ((h1.le l).le s).rd) h2⟩
    | _ => cases e
theorem src_at_str {F : Hp} {ρ : List Addr} {H : Hp} {s : List Nat} {v : V} {u : Value} (hw : RW F ρ (.d (.str s)) v) (ru : RelV v u) : SrcAt X T F ρ H (.d (chrs s)) u := by
  cases (show v = .str ⟨s.toArray⟩ from hw)
  obtain ⟨t, rfl⟩ := ru
  exact ⟨_, _, _, chV s, src_str s t, rfl, srcok_d (fun _ _ _ _ => rfl) (chV_rd s)⟩
/-- a new tuple of data -/
theorem made_tup {F ρ st H} {ds : List D} {x : List V} {p : Addr} (r : Rl T F ρ st H) (hp : H p = none) (h : RDs F ds x) : ∃ F', Step T F ρ H F' ρ (upd H p (.tup x)) ∧ Rl T F' ρ st (upd H p (.tup x)) ∧ RD F' (.tup false ds) (.ref p) := by
  have fp : F p = none := by
    cases q : F p with
    | none => rfl
    | some u => rw [r.sub p u q] at hp; cases hp
  exact ⟨upd F p (.tup x), Step.data r hp, Rl.data r hp (fun _ z => nomatch z), p, x, rfl, upd_same, h.le (Le.upd fp)⟩
theorem itok_en {F : Hp} {ρ : List Addr} {src : Src} {its : Hp → List V → Prop} {it : Itr} (h : SrcOk T F ρ src its) (hn : ∀ (st : St) (i : Nat), nxt it st i = (match srcAt st src i with | .item x => Nxt.item (.tup false [.int i, x]) | r => r)) : ItOk T F ρ it (ItG (rowsE its)) := by
  intro i F' ρ' st H l m r
  have q := h i F' ρ' st H l m r
  rw [hn]
  cases hs : srcAt st src i with
  | bad => trivial
  | stop =>
    rw [hs] at q
    obtain ⟨xs, h1, h2⟩ := q
    exact ⟨_, ⟨xs, h1, rfl⟩, by rw [enV_len]; exact h2⟩
  | item d =>
    rw [hs] at q
    obtain ⟨xs, v, h1, h2, h3⟩ := q
    have h4 : (enV 0 xs)[i]? = some [.int (i : Nat), v] := by
      rw [enV_at, h2, Nat.zero_add]
      rfl
    refine ⟨⟨_, _, ⟨xs, h1, rfl⟩, h4⟩, fun x H' ⟨p, y, e1, e2, e3, e4⟩ => ?_⟩
    have e5 := e4 _ ⟨xs, h1, rfl⟩
    rw [h4] at e5
    cases e5
    subst e1 e3
    exact made_tup r e2 (RDs.cons rfl (RDs.cons h3 RDs.nil))
theorem itok_zp {F : Hp} {ρ : List Addr} {s1 s2 : Src} {its its2 : Hp → List V → Prop} {it : Itr} (h : SrcOk T F ρ s1 its) (h' : SrcOk T F ρ s2 its2) (hn : ∀ (st : St) (i : Nat), nxt it st i = nxt (.zip s1 s2) st i) : ItOk T F ρ it (ItG (rowsZ its its2)) := by
  intro i F' ρ' st H l m r
  have q := h i F' ρ' st H l m r
  have q2 := h' i F' ρ' st H l m r
  rw [hn]
  have hx : nxt (.zip s1 s2) st i = (match srcAt st s1 i with
    | .item x => (match srcAt st s2 i with
      | .item y => Nxt.item (.tup false [x, y])
      | r => r)
    | .stop => (match srcAt st s2 i with
      | .bad => .bad
      | _ => .stop)
    | .bad => .bad) := rfl
  rw [hx]
  cases hs : srcAt st s1 i with
  | bad => trivial
  | stop =>
    rw [hs] at q
    obtain ⟨xs, g1, g2⟩ := q
    cases hs2 : srcAt st s2 i with
    | bad => trivial
    | stop =>
      rw [hs2] at q2
      obtain ⟨ys, g3, g4⟩ := q2
      exact ⟨_, ⟨xs, ys, g1, g3, rfl⟩, by rw [zpV_len]; omega⟩
    | item d =>
      rw [hs2] at q2
      obtain ⟨ys, y, g3, g4, _⟩ := q2
      have := (List.getElem?_eq_some_iff.mp g4).1
      exact ⟨_, ⟨xs, ys, g1, g3, rfl⟩, by rw [zpV_len]; omega⟩
  | item d =>
    rw [hs] at q
    obtain ⟨xs, x, g1, g2, g3⟩ := q
    have hlt := (List.getElem?_eq_some_iff.mp g2).1
    cases hs2 : srcAt st s2 i with
    | bad => trivial
    | stop =>
      rw [hs2] at q2
      obtain ⟨ys, g4, g5⟩ := q2
      exact ⟨_, ⟨xs, ys, g1, g4, rfl⟩, by rw [zpV_len]; omega⟩
    | item d2 =>
      rw [hs2] at q2
      obtain ⟨ys, y, g4, g5, g6⟩ := q2
      have g7 := zpV_at xs ys i x y g2 g5
      refine ⟨⟨_, _, ⟨xs, ys, g1, g4, rfl⟩, g7⟩, fun v H' ⟨p, z, e1, e2, e3, e4⟩ => ?_⟩
      have e5 := e4 _ ⟨xs, ys, g1, g4, rfl⟩
      rw [g7] at e5
      cases e5
      subst e1 e3
      exact made_tup r e2 (RDs.cons g3 (RDs.cons g6 RDs.nil))
theorem nth_pairUp : ∀ (ds : List D) (k : Int) (i : Nat), nth (pairUp k ds) i = (nth ds i).map fun x => .tup false [.int (k + i), x]
  | [], k, i => by simp [pairUp, nth]
  | x :: r, k, 0 => by simp [pairUp, nth]
  | x :: r, k, i + 1 => by
    show nth (pairUp (k + 1) r) i = (nth r i).map _
    rw [nth_pairUp r (k + 1) i]
    congr 1
    funext y
    rw [show k + 1 + (i : Int) = k + ((i + 1 : Nat) : Int) by omega]
theorem len_pairUp : ∀ (ds : List D) (k : Int), (pairUp k ds).length = ds.length
  | [], k => rfl
  | x :: r, k => by simp [pairUp, len_pairUp r (k + 1)]
theorem nxt_pairUp (ds : List D) (st : St) (i : Nat) : nxt (.seq (pairUp 0 ds)) st i = (match srcAt st (.d ds) i with | .item x => Nxt.item (.tup false [.int i, x]) | r => r) := by
  show (match nth (pairUp 0 ds) i with | some x => Nxt.item x | none => stopAt i (pairUp 0 ds).length) = (match (match nth ds i with | some x => Nxt.item x | none => stopAt i ds.length) with | .item x => Nxt.item (.tup false [.int i, x]) | r => r)
  rw [nth_pairUp, len_pairUp, Int.zero_add]
  cases nth ds i with
  | some x => rfl
  | none =>
    rcases stopAt_eq (i := i) (n := ds.length) rfl with ⟨e, _⟩ | e <;> rw [e] <;> simp [e]
end
end Rf
/-! Rf28: enumerate and zip as what is walked. -/
namespace Rf
open PySem PySem.Spec PyProof.Rows L2 PySem.W
theorem stopAt_ne {i n : Nat} (h : i ≠ n) : stopAt i n = .bad := by
  rcases stopAt_eq (i := i) (n := n) rfl with ⟨_, e⟩ | e
  · exact absurd e h
  · exact e
theorem stopAt_of {i n : Nat} (h : i = n) : stopAt i n = .stop := by rw [h, stopAt_self]
theorem nth_zip2 : ∀ (xs ys : List D) (i : Nat), nth (zip2 xs ys) i = (match nth xs i with | some x => (match nth ys i with | some y => some (D.tup false [x, y]) | none => none) | none => none)
  | [], ys, i => by simp [zip2, nth]
  | x :: xs, [], i => by
    have : nth ([] : List D) i = none := by cases i <;> rfl
    rw [show zip2 (x :: xs) [] = [] from rfl, this]
    cases nth (x :: xs) i <;> rfl
  | x :: xs, y :: ys, 0 => rfl
  | x :: xs, y :: ys, i + 1 => nth_zip2 xs ys i
theorem len_zip2 : ∀ (xs ys : List D), (zip2 xs ys).length = min xs.length ys.length
  | [], ys => by simp [zip2]
  | x :: xs, [] => by simp [zip2]
  | x :: xs, y :: ys => by
    simp only [zip2, List.length_cons, len_zip2 xs ys]
    omega
theorem nth_none {α : Type} {xs : List α} {i : Nat} (h : nth xs i = none) : xs.length ≤ i := by
  rw [nth_eq] at h
  exact List.getElem?_eq_none_iff.mp h
theorem nth_some {α : Type} {xs : List α} {i : Nat} {x : α} (h : nth xs i = some x) : i < xs.length := by
  rw [nth_eq] at h
  exact (List.getElem?_eq_some_iff.mp h).1
theorem nxt_zip2 (xs ys : List D) (st : St) (i : Nat) : nxt (.seq (zip2 xs ys)) st i = nxt (.zip (.d xs) (.d ys)) st i := by
  have h1 : nxt (.seq (zip2 xs ys)) st i = (match nth (zip2 xs ys) i with | some x => Nxt.item x | none => stopAt i (zip2 xs ys).length) := rfl
  have h2 : nxt (.zip (.d xs) (.d ys)) st i = (match srcAt st (.d xs) i with
    | .item x => (match srcAt st (.d ys) i with
      | .item y => Nxt.item (.tup false [x, y])
      | r => r)
    | .stop => (match srcAt st (.d ys) i with
      | .bad => .bad
      | _ => .stop)
    | .bad => .bad) := rfl
  have h3 : ∀ ds : List D, srcAt st (.d ds) i = (match nth ds i with | some x => Nxt.item x | none => stopAt i ds.length) := fun _ => rfl
  rw [h1, h2, h3, h3, nth_zip2, len_zip2]
  cases hx : nth xs i with
  | some x =>
    have l1 := nth_some hx
    cases hy : nth ys i with
    | some y => rfl
    | none =>
      have l2 := nth_none hy
      show stopAt i (min xs.length ys.length) = (match stopAt i ys.length with | .item y => Nxt.item (.tup false [x, y]) | r => r)
      rw [show min xs.length ys.length = ys.length by omega]
      rcases stopAt_eq (i := i) (n := ys.length) rfl with ⟨e, _⟩ | e <;> rw [e]
  | none =>
    have l1 := nth_none hx
    show stopAt i (min xs.length ys.length) = (match stopAt i xs.length with
      | .item x => (match (match nth ys i with | some x => Nxt.item x | none => stopAt i ys.length) with
        | .item y => Nxt.item (.tup false [x, y])
        | r => r)
      | .stop => (match (match nth ys i with | some x => Nxt.item x | none => stopAt i ys.length) with
        | .bad => .bad
        | _ => .stop)
      | .bad => .bad)
    by_cases hi : i = xs.length
    · rw [stopAt_of hi]
      cases hy : nth ys i with
      | some y =>
        have l2 := nth_some hy
        exact stopAt_of (by omega)
      | none =>
        have l2 := nth_none hy
        show stopAt i (min xs.length ys.length) = (match stopAt i ys.length with | .bad => Nxt.bad | _ => .stop)
        by_cases h4 : i = ys.length
        · rw [stopAt_of h4, stopAt_of (by omega)]
        · rw [stopAt_ne h4, stopAt_ne (by omega)]
    · rw [stopAt_ne hi, stopAt_ne (by omega)]
section
variable {X : Cx} {T : List Addr} {cl : Calls} {elts : List Expr} {kk : Nat} {tpos p pos : Pos} {e e2 : Expr} {e' e2' : E}
def enOf (st : St) (w : W) : Option (Itr × St) := match srcV st w with
  | some (.d ds) => some (.seq (pairUp 0 ds), st)
  | some (.o n) => some (.enum n, st)
  | none => (match w with
    | .d (.str s) => some (.seq (pairUp 0 (chrs s)), st)
    | _ => none)
/-- what enumerate gives for a value -/
theorem enum_r {F : Hp} {ρ : List Addr} {st : St} {H : Hp} {w : W} {v : V} {u : Value} {it : Itr} {st' : St} (r : Rl T F ρ st H) (hw : RW F ρ w v) (ru : RelV v u)
    (e : enOf st w = some (it, st')) : st' = st ∧ ∃ (o : Obj) (its : Hp → List V → Prop) (tn : Addr → Nat → Heap → Prop) (xs : List V), SrcR X.prog X.w X.K u o its tn ∧ its H xs ∧ ItOk T F ρ it (ItG (rowsE its)) := by
  unfold enOf at e
  cases hs : srcV st w with
  | some src =>
    rw [hs] at e
    obtain ⟨o, its, tn, xs, h1, h2, h3⟩ := src_at (X := X) r hw ru hs
    cases src with
    | d ds => cases e; exact ⟨rfl, o, its, tn, xs, h1, h2, itok_en h3 (nxt_pairUp ds)⟩
    | o n => cases e; exact ⟨rfl, o, its, tn, xs, h1, h2, itok_en h3 fun _ _ => rfl⟩
  | none =>
    rw [hs] at e
    cases w with
    | un => cases e
    | ref n => cases e
    | d x =>
      cases x with
      | str s =>
        cases e
        obtain ⟨o, its, tn, xs, h1, h2, h3⟩ := src_at_str (X := X) (T := T) (H := H) hw ru
        exact ⟨rfl, o, its, tn, xs, h1, h2, itok_en h3 (nxt_pairUp _)⟩
      | _ => cases e
theorem pi_en (hg : Gl X "enumerate") (hm : X.mg "enumerate" = none) (pa : plainE e = true) (ha : PE X e (tEv T (ev cl e'))) : PI X (.Tuple elts kk tpos) (.Call (.Name "enumerate" p) [e] [] pos) (tIv T (evF cl (.enum e'))) := by
  refine ⟨fun pins s σ H R I h => ?_⟩
  obtain ⟨F, ρ, env, st, it, st', r, hE, e1, fin⟩ := h
  simp only [evF] at e1
  cases h1 : ev cl e' env st with
  | none => rw [h1] at e1; cases e1
  | some q =>
    obtain ⟨w, st1⟩ := q
    rw [h1] at e1
    refine Call_ (ld_blt I hg hm boot_enumerate (PyProof.Rows.callWith_type1 (args_cons (thn (ha.run pins s σ H (fun x H1 => ∃ F' ρ', Step T F ρ H F' ρ' H1 ∧ Rl T F' ρ' st1 H1 ∧ RW F' ρ' w x) I ⟨F, ρ, env, st, w, st1, r, hE, h1, fun F' ρ' H' v s' r' hw => ⟨F', ρ', s', r', hw⟩⟩) fun u s1 ⟨x, H1, I1, r1, F', ρ', s', r', hw⟩ => args_nil ?_) (starEach_plain pa [] X.env)) (starEach_plain pa [] X.env) rfl))
    obtain ⟨rfl, o, its, tn, xs, B, hx, ok⟩ := enum_r (X := X) r' hw r1 e1
    exact enum_src B I1 hx (fin F' ρ' H1 _ s' r' ok)
theorem pi_zp (hg : Gl X "zip") (hm : X.mg "zip" = none) (pa : plainE e = true) (pb : plainE e2 = true) (ha : PE X e (tEv T (ev cl e'))) (hb : PE X e2 (tEv T (ev cl e2'))) : PI X (.Tuple elts kk tpos) (.Call (.Name "zip" p) [e, e2] [] pos) (tIv T (evF cl (.zip e' e2'))) := by
  refine ⟨fun pins s σ H R I h => ?_⟩
  obtain ⟨F, ρ, env, st, it, st', r, hE, e1, fin⟩ := h
  simp only [evF] at e1
  cases h1 : ev cl e' env st with
  | none => rw [h1] at e1; cases e1
  | some q =>
    obtain ⟨w, st1⟩ := q
    rw [h1] at e1
    simp only at e1
    cases h2 : ev cl e2' env st1 with
    | none => rw [h2] at e1; cases e1
    | some q =>
      obtain ⟨w2, st2⟩ := q
      rw [h2] at e1
      simp only at e1
      cases hs : srcV st2 w with
      | none => rw [hs] at e1; cases e1
      | some s1 =>
        rw [hs] at e1
        simp only at e1
        cases hs2 : srcV st2 w2 with
        | none => rw [hs2] at e1; cases e1
        | some s2 =>
          rw [hs2] at e1
          simp only at e1
          have hit : st' = st2 ∧ ∀ (st : St) (i : Nat), nxt it st i = nxt (.zip s1 s2) st i := by
            cases s1 <;> cases s2 <;> (cases e1; exact ⟨rfl, fun st i => by first | rfl | exact nxt_zip2 _ _ st i⟩)
          obtain ⟨rfl, hn⟩ := hit
          have hW := evW_2 (cl := cl) h1 h2
          refine Call_ (ld_blt I hg hm PyProof.Rows.boot_zip (PyProof.Rows.callWith_type1 (thn ((pa_W1 pa ha (pa_W1 pb hb pa_W0)).run pos pins s σ H (fun xs H1 => ∃ F' ρ' x y, xs = [x, y] ∧ Step T F ρ H F' ρ' H1 ∧ Rl T F' ρ' st' H1 ∧ RW F' ρ' w x ∧ RW F' ρ' w2 y) I ⟨F, ρ, env, st, _, _, r, hE, hW, fun F' ρ' H' vs s' r' hws => ?_⟩)
            fun us s1' ⟨xs, H1, I1, r1, F', ρ', x, y, ex, s', r', hx, hy⟩ => ?_) (starEach_plain pa _ X.env) (by rw [plain1 pb]; rfl)))
          · obtain ⟨x, t, rfl, hx, y, t2, rfl, hy, ht⟩ := hws
            cases ht
            exact ⟨F', ρ', x, y, rfl, s', r', hx, hy⟩
          · subst ex
            obtain ⟨a, b, rfl, ra, rb⟩ := vals2' r1
            obtain ⟨o, its, tn, xs, B, g1, g2⟩ := src_at (X := X) r' hx ra hs
            obtain ⟨o2, its2, tn2, xs2, B2, g3, g4⟩ := src_at (X := X) r' hy rb hs2
            exact zip_src B B2 I1 g1 g3 (fin F' ρ' H1 _ s' r' (itok_zp g2 g4 hn))
end
end Rf
/-! Rf29: slices from the end. -/
namespace Rf
open PySem PySem.Spec PyProof.Rows L2 PySem.W
theorem fm_congr {α β : Type} {f g : α → Option β} : ∀ l : List α, (∀ x ∈ l, f x = g x) → l.filterMap f = l.filterMap g
  | [], _ => rfl
  | x :: l, h => by
    rw [List.filterMap_cons, List.filterMap_cons, h x (by simp), fm_congr l fun y hy => h y (List.mem_cons_of_mem _ hy)]
theorem down_map (n m : Nat) (h : m ≤ n) : (List.range (n - m)).map (fun k => n - 1 - k) = ((List.range (n - m)).map (m + ·)).reverse := by
  apply List.ext_getElem
  · simp
  · intro i h1 h2
    have hi : i < n - m := by simpa using h1
    simp only [List.getElem_map, List.getElem_range, List.getElem_reverse, List.length_map, List.length_range]
    omega
theorem down_pick (xs : Array Value) (m : Nat) (h : m ≤ xs.size) : ((List.range (xs.size - m)).map (fun k => xs.size - 1 - k)).filterMap (xs[·]?) = (xs.toList.drop m).reverse := by
  rw [down_map _ _ h, List.filterMap_reverse, pick_run, List.take_of_length_le (by rw [List.length_drop, Array.length_toList]; exact Nat.le_refl _)]
/-- the bound of a slice from the end -/
def hiP (n : Nat) : Option Int → Nat
  | none => 0
  | some i => min (i.toNat + 1) n
theorem hi_int {n : Nat} {o : Option Int} (h : ∀ i, o = some i → 0 ≤ i) : (match o with | none => (-1 : Int) | some i => min i ((n : Int) - 1)) = ((hiP n o : Nat) : Int) - 1 := by
  cases o with
  | none => rfl
  | some i =>
    have := h i rfl
    show min i ((n : Int) - 1) = ((min (i.toNat + 1) n : Nat) : Int) - 1
    omega
theorem hiP_le (n : Nat) (o : Option Int) : hiP n o ≤ n := by
  cases o with
  | none => exact Nat.zero_le _
  | some i => exact Nat.min_le_right _ _
theorem down_list (items : Array Value) {o : Option Int} (h : ∀ i, o = some i → 0 ≤ i) : slicePick items none o (some (-1)) = ((items.toList.drop (hiP items.size o)).reverse).toArray := by
  have hle := hiP_le items.size o
  have e1 : sliceBounds none o (some (-1)) items.size = ((items.size : Int) - 1, ((hiP items.size o : Nat) : Int) - 1, -1) := by
    rw [← hi_int h]
    cases o with
    | none => rfl
    | some i =>
      have h0 := h i rfl
      unfold sliceBounds
      simp only [Option.getD_some]
      refine Prod.ext rfl (Prod.ext ?_ rfl)
      have hn : ¬ ((-1 : Int) > 0) := by decide
      simp only [hn, if_false]
      rw [if_neg (by omega)]
      omega
  unfold slicePick
  rw [e1]
  have e2 : sliceRange ((items.size : Int) - 1) (((hiP items.size o : Nat) : Int) - 1) (-1) = (List.range (items.size - hiP items.size o)).map (fun k => items.size - 1 - k) := by
    unfold sliceRange
    have h1 : ¬ ((-1 : Int) > 0) := by decide
    simp only [h1, if_false]
    have e3 : (if (items.size : Int) - 1 > ((hiP items.size o : Nat) : Int) - 1 then ((items.size : Int) - 1 - (((hiP items.size o : Nat) : Int) - 1) - (-1) - 1) / (-(-1)) else 0).toNat = items.size - hiP items.size o := by
      split
      · rw [show (-(-1) : Int) = 1 by decide, Int.ediv_one]
        omega
      · omega
    rw [e3]
    refine List.map_congr_left fun k hk => ?_
    have := List.mem_range.mp hk
    omega
  show ((sliceRange ((items.size : Int) - 1) (((hiP items.size o : Nat) : Int) - 1) (-1)).filterMap (items[·]?)).toArray = _
  rw [e2, down_pick _ _ hle]
section
variable {prog : Program} {w : World} {A : Around} {E : Value → Shared → Prop} {s : Shared}
theorem down_tup {t sl : Addr} {items : Array Value} {vu vs : Value} {o : Option Int} {Q : Value → Shared → Prop} (ht : IsTup s.heap t items) (hs : s.heap.IsSliceOf sl .none vu vs) (pu : IsPart vu o) (ps : IsPart vs (some (-1))) (h0 : ∀ i, o = some i → 0 ≤ i)
    (h : Q (.ref s.heap.objs.size) { s with heap := s.heap.push { cls := .type "tuple", data := .seq ((items.toList.drop (hiP items.size o)).reverse).toArray } }) (hsz : items.size ≤ sizeLine) : wpAny (model prog w) A (getItem (.ref t) (.ref sl)) Q E s := by
  have hle := hiP_le items.size o
  have room : sizeOk (.seq ((items.toList.drop (hiP items.size o)).reverse).toArray) := by
    show ((items.toList.drop (hiP items.size o)).reverse).toArray.size ≤ sizeLine
    rw [List.size_toArray, List.length_reverse, List.length_drop, Array.length_toList]
    omega
  obtain ⟨os, hos, hcs, hds⟩ := id hs
  have hTs : s.TypeIs (.ref sl) "slice" := ⟨os, hos, hcs⟩
  unfold getItem
  try with_reducible refine wpAny_holding ?_
  first | refine wpAny_bind (wpAny_pure ?_) | skip
  refine wpAny_bind (wpAny_sequenceKey ht.typeIs (by decide) ?_)
  refine wpAny_bind (wpAny_callSpecial?_slot (name := Str.ofString "__getitem__") ht.typeIs PyProof.Rows.slot_tuple_getitem
    (wpAny_call_entry PyProof.Rows.slot_tuple_getitem ht.typeIs PyProof.Rows.entry_tuple_getitem ?_ (PyProof.Rows.args_tuple_getitem _ _)))
  show wpAny _ _ (Builtin.Tuple.tupleItemsOf (.ref t) >>= _) _ _ s
  refine wpAny_bind (tupleItemsOf_ ht ?_)
  refine wpAny_bind (wpAny_typeOf hTs ?_)
  rw [if_pos (by decide)]
  have adj : Builtin.Slice.sliceAdjust none o (-1) (items.size : Int) = ((items.size : Int) - 1, ((hiP items.size o : Nat) : Int) - 1) := by
    rw [← hi_int h0]
    unfold Builtin.Slice.sliceAdjust
    cases o with
    | none => rfl
    | some i =>
      have := h0 i rfl
      refine Prod.ext rfl ?_
      show (if i < 0 then _ else min i (if (-1 : Int) < 0 then (items.size : Int) - 1 else (items.size : Int))) = _
      rw [if_neg (by omega), if_pos (by decide)]
  have plc : Builtin.Slice.slicePlaces ((items.size : Int) - 1) (((hiP items.size o : Nat) : Int) - 1) (-1) = items.size - hiP items.size o := by
    unfold Builtin.Slice.slicePlaces
    rw [if_neg (by decide)]
    split
    · rw [show (-(-1) : Int) = 1 by decide, Int.ediv_one]
      omega
    · omega
  have app : ∀ (A' : Around) (E' : Value → Shared → Prop) (Q' : Int × Int × Nat → Shared → Prop), Q' ((items.size : Int) - 1, -1, items.size - hiP items.size o) s → wpAny (model prog w) A' (Builtin.Slice.sliceApplied (.ref sl) (pure (items.size : Int))) Q' E' s := fun A' E' Q' q => by
    unfold Builtin.Slice.sliceApplied Builtin.Slice.sliceFields
    refine wpAny_bind (wpAny_bind (wpAny_field hos hds (x := .none) rfl (wpAny_bind (wpAny_field hos hds (x := vu) rfl (wpAny_bind (wpAny_field hos hds (x := vs) rfl (wpAny_pure ?_)))))))
    refine wpAny_bind (HT.slicePart_ ps ?_)
    show wpAny _ _ (if ((-1 : Int) == 0) = true then _ else _) _ _ s
    rw [if_neg (by decide)]
    refine wpAny_bind (slicePart_none (wpAny_bind (HT.slicePart_ pu (wpAny_bind (wpAny_pure ?_)))))
    show wpAny _ _ (match Builtin.Slice.sliceAdjust none o (-1) (items.size : Int) with | (lo, hi) => pure (lo, (-1 : Int), Builtin.Slice.slicePlaces lo hi (-1))) _ _ s
    rw [adj]
    show wpAny _ _ (pure ((items.size : Int) - 1, (-1 : Int), Builtin.Slice.slicePlaces ((items.size : Int) - 1) (((hiP items.size o : Nat) : Int) - 1) (-1))) _ _ s
    rw [plc]
    exact wpAny_pure q
  refine wpAny_bind (app _ _ _ ?_)
  show wpAny _ _ (if (((items.size : Int) - 1) == 0 && (-1 : Int) == 1 && (items.size - hiP items.size o) == items.size) = true then _ else _) _ _ s
  rw [if_neg (by rw [show ((-1 : Int) == 1) = false from rfl, Bool.and_false, Bool.false_and]; exact Bool.false_ne_true)]
  have pk : ((List.range (items.size - hiP items.size o)).filterMap fun (m : Nat) => items[((items.size : Int) - 1 + (m : Int) * (-1)).toNat]?).toArray = ((items.toList.drop (hiP items.size o)).reverse).toArray := by
    rw [← down_pick _ _ hle, List.filterMap_map]
    congr 1
    refine fm_congr _ fun m hm => ?_
    have := List.mem_range.mp hm
    show items[((items.size : Int) - 1 + (m : Int) * (-1)).toNat]? = items[items.size - 1 - m]?
    congr 1
    omega
  rw [pk]
  first
    | exact wpAny_bind (m := Builtin.Tuple.tupleExact _) (wpAny_newObj_type (wpAny_pure ⟨_, rfl, wpAny_pure h⟩) room)
    | exact wpAny_bind (m := Builtin.Tuple.tupleExact _) (wpAny_newObj_type (wpAny_bind (wpAny_pure (wpAny_pure ⟨_, rfl, wpAny_pure h⟩))) room)
    | exact wpAny_bind (wpAny_bind (m := Builtin.Tuple.tupleExact _) (wpAny_newObj_type (wpAny_pure (wpAny_pure ⟨_, rfl, wpAny_pure h⟩)) room))
    | exact wpAny_bind (wpAny_bind (m := Builtin.Tuple.tupleExact _) (wpAny_newObj_type (wpAny_pure ⟨_, rfl, wpAny_pure h⟩) room))
end
end Rf
/-! Rf30: x[:h:-1], list(range(..)), names of list comprehensions. -/
namespace Rf
open PySem PySem.Spec PyProof.Rows L2 PySem.W
section
variable {X : Cx} {T : List Addr} {cl : Calls} {pos : Pos} {a b c e : Expr} {a' b' c' e' : E}
def tSlr (K : PySem.W.Frag) (te : TE) (th : TO) : TE := fun σ H Q => te σ H fun x H1 => th σ H1 fun o H2 => ∃ p xs, x = .ref p ∧ (∀ i, o = some i → 0 ≤ i) ∧
  ((SqL K H2 p xs ∧ ∀ q, H2 q = none → Q (.ref q) (upd H2 q (.lst (xs.drop (hiP xs.length o)).reverse))) ∨ (SqT K H2 p xs ∧ ∀ q, H2 q = none → Q (.ref q) (upd H2 q (.tup (xs.drop (hiP xs.length o)).reverse))))
theorem pe_slr {te : TE} {th : TO} {hi : Option Expr} {k : Nat} {p1 p2 p3 : Pos} (he : PE X e te) (hh : PO X hi th) : PE X (.Subscript e (.Slice none hi (some (.UnaryOp .USub (.Constant (.int 1) k p1) p2)) p3) pos) (tSlr X.K te th) := by
  refine ⟨fun pins s σ H Q I h => ?_⟩
  refine Subscript_ (thn (he.run pins s σ H _ I h) fun v s1 ⟨x, H1, I1, r1, q1⟩ => ?_)
  have hst : PO X (some (.UnaryOp .USub (.Constant (.int 1) k p1) p2)) (tPart (tUn (rU fun i => .int (-i)) (tC (.int 1)))) := po_some (pe_un un_neg pe_int)
  refine wpAny_Slice (thn (po_none.run pins s1 σ H1 (fun o H2 => o = none ∧ H2 = H1) I1 ⟨rfl, rfl⟩) fun vl s2 ⟨l, H2, I2, pl, el, e2⟩ => ?_)
  subst el e2
  refine thn (hh.run pins s2 σ H2 _ I2 q1) fun vu s3 ⟨u, H3, I3, pu, q3⟩ => ?_
  refine thn (hst.run pins s3 σ H3 (fun o H4 => o = some (-1) ∧ H4 = H3) I3 ⟨1, rfl, -1, rfl, rfl, rfl⟩) fun vs s4 ⟨o, H4, I4, ps, eo, e4⟩ => ?_
  subst eo e4
  obtain ⟨a, xs, ex, h0, q⟩ := q3
  subst ex
  cases r1
  cases pl
  have I5 : Inv X pins σ H4 { s4 with heap := s4.heap.push { cls := .type "slice", data := .fields #[.none, vu, vs] } } := I4.kept (t' := s4.toks) fun b ob q => Heap.get?_push_of_some _ q
  show wpAny (model X.prog X.w) X.A (subscriptTail e (.Slice none hi (some (.UnaryOp .USub (.Constant (.int 1) k p1) p2)) p3) (.ref a) (.ref s4.heap.objs.size)) (EP X pins σ Q) X.xe { s4 with heap := s4.heap.push { cls := .type "slice", data := .fields #[.none, vu, vs] } }
  rcases q with ⟨hx, q⟩ | ⟨hx, q⟩
  · obtain ⟨its, r, ht, hz⟩ := I5.list hx
    have hlen := r.length
    refine tail_any (ops := [.ref a, .ref s4.heap.objs.size]) ht.isList.typeIs (PySem.slot_list_getitem.lookup) ?_ (by with_unfolding_all rfl)
    refine wpAny_getItem_list_slice ht.isList (Heap.IsSliceOf.new _ .none vu vs) .none pu ps (by decide) ?_ (by rw [List.size_toArray]; omega)
    have hsz : its.toArray.size = xs.length := by rw [List.size_toArray]; exact hlen.symm
    rw [down_list _ h0, hsz]
    refine ⟨.ref _, _, I5.laid (t' := s4.toks) (o := .lst (xs.drop (hiP xs.length u)).reverse) (fun b ob q => Heap.get?_push_of_some _ q) (Nat.le_refl _) ?_, rfl, q _ (I5.hok.fresh (Nat.le_refl _))⟩
    exact ⟨by rw [List.length_reverse, List.length_drop]; omega, _, 0, (r.drop _).reverse, Heap.get?_push_size _ rfl⟩
  · obtain ⟨its, r, ht, hz⟩ := I5.tuple hx
    have hlen := r.length
    refine tail_any (ops := [.ref a, .ref s4.heap.objs.size]) ht.typeIs (PyProof.Rows.slot_tuple_getitem.lookup) ?_ (by with_unfolding_all rfl)
    refine down_tup ht (Heap.IsSliceOf.new _ .none vu vs) pu ps h0 ?_ (by rw [List.size_toArray]; omega)
    have hsz : its.toArray.size = xs.length := by rw [List.size_toArray]; exact hlen.symm
    rw [hsz]
    refine ⟨.ref _, _, I5.laid (t' := s4.toks) (o := .tup (xs.drop (hiP xs.length u)).reverse) (fun b ob q => Heap.get?_push_of_some _ q) (Nat.le_refl _) ?_, rfl, q _ (I5.hok.fresh (Nat.le_refl _))⟩
    exact ⟨by rw [List.length_reverse, List.length_drop]; omega, _, (r.drop _).reverse, ⟨_, Heap.get?_push_size _ rfl, rfl, _, rfl⟩⟩
theorem drop_hi {α : Type} (xs : List α) (k : Nat) : xs.drop (hiP xs.length (some (k : Int))) = xs.drop (k + 1) := by
  show xs.drop (min ((k : Int).toNat + 1) xs.length) = _
  rw [Int.toNat_natCast]
  by_cases h : k + 1 ≤ xs.length
  · rw [Nat.min_eq_left h]
  · rw [Nat.min_eq_right (by omega), List.drop_eq_nil_of_le (Nat.le_refl _), List.drop_eq_nil_of_le (by omega)]
theorem pv_slr {box : Bool} {hi : Option Expr} {hi' : Option E} {k : Nat} {p1 p2 p3 : Pos} (ha : PE X e (tEv T (ev cl e'))) (hh : PO X hi (tOv T (evO cl hi'))) :
    PE X (.Subscript e (.Slice none hi (some (.UnaryOp .USub (.Constant (.int 1) k p1) p2)) p3) pos) (tEv T (ev cl (.slr box e' hi'))) :=
  (pe_slr ha hh).mono fun σ H Q ⟨F, ρ, env, st, w, st', r, hE, e1, fin⟩ => by
    simp only [ev] at e1
    cases h1 : ev cl e' env st with
    | none => rw [h1] at e1; cases e1
    | some q =>
      obtain ⟨x, st1⟩ := q
      rw [h1] at e1
      simp only at e1
      cases h2 : evO cl hi' env st1 with
      | none => rw [h2] at e1; cases e1
      | some q =>
        obtain ⟨o, st2⟩ := q
        rw [h2] at e1
        refine ⟨F, ρ, env, st, x, st1, r, hE, h1, fun F1 ρ1 H1 u1 s1 r1 w1 => ?_⟩
        refine ⟨F1, ρ1, env, st1, o, st2, r1, hE.step s1, h2, fun F2 ρ2 H2 s2 r2 => ?_⟩
        have w2 := w1.step s2
        have S := s1.trans s2
        have key : ∀ m : Nat, (∀ i, o = some i → 0 ≤ i) → (∀ (n : Nat) (xs : List V), xs.length = n → xs.drop (hiP n o) = xs.drop m) →
            ((match view st2 x with
              | some (.lst ds) => some (mk box st2 (.fresh (ds.drop m).reverse))
              | some (.tup _ ds) => some (.d (.tup false (ds.drop m).reverse), st2)
              | _ => none) = some (w, st')) → ∃ p xs, u1 = V.ref p ∧ (∀ i, o = some i → 0 ≤ i) ∧
            ((SqL X.K H2 p xs ∧ ∀ q, H2 q = none → Q (.ref q) (upd H2 q (.lst (xs.drop (hiP xs.length o)).reverse))) ∨ (SqT X.K H2 p xs ∧ ∀ q, H2 q = none → Q (.ref q) (upd H2 q (.tup (xs.drop (hiP xs.length o)).reverse)))) := fun m h0 hd e1 => by
          cases hv : view st2 x with
          | none => rw [hv] at e1; cases e1
          | some d =>
            rw [hv] at e1
            cases d with
            | lst ds =>
              obtain ⟨pa, vs, rfl, h5, h6⟩ := view_ok r2 w2 hv
              have e1 := Option.some.inj e1
              have e2 : w = (mk box st2 (.fresh (ds.drop m).reverse)).1 := by rw [e1]
              have e3 : st' = (mk box st2 (.fresh (ds.drop m).reverse)).2 := by rw [e1]
              subst e2 e3
              refine ⟨pa, vs, rfl, h0, .inl ⟨SqL.of h5, fun q hq => ?_⟩⟩
              rw [hd _ vs rfl]
              exact (fin.step S).lst r2 (h6.drop m).reverse q hq
            | tup k ds =>
              obtain ⟨pa, vs, rfl, h5, h6⟩ := (view_ok r2 w2 hv : RD F2 (.tup k ds) u1)
              cases e1
              refine ⟨pa, vs, rfl, h0, .inr ⟨h5.sq r2.sub, fun q hq => ?_⟩⟩
              rw [hd _ vs rfl]
              exact (fin.step S).tup r2 (h6.drop m).reverse q hq
            | _ => cases e1
        cases o with
        | none => exact key 0 (fun i z => by cases z) (fun n xs _ => rfl) e1
        | some i =>
          cases i with
          | ofNat k => exact key (k + 1) (fun i z => by cases z; exact Int.natCast_nonneg k) (fun n xs hn => by rw [← hn]; exact drop_hi xs k) e1
          | negSucc k => cases e1
end
end Rf
/-! Rf31: list(range(..)), tuple(range(..)); name = [.. for ..] on one line. -/
namespace Rf
open PySem PySem.Spec PyProof.Rows L2 PySem.W
theorem rg_rds {F : Hp} : ∀ (n : Nat) (a : Int), RDs F (rngUp a n) ((List.range n).map fun i => V.int (a + (i : Nat)))
  | 0, a => rfl
  | n + 1, a => by
    rw [List.range_succ_eq_map, List.map_cons, List.map_map]
    refine RDs.cons (by show V.int _ = V.int a; simp) ?_
    have := rg_rds (F := F) n (a + 1)
    have e : ((fun i : Nat => V.int (a + (i : Nat))) ∘ Nat.succ) = fun i : Nat => V.int (a + 1 + (i : Nat)) := by
      funext i
      show V.int (a + ((i + 1 : Nat) : Int)) = _
      congr 1
      omega
    rw [e]
    exact this
section
variable {X : Cx} {T : List Addr} {cl : Calls} {p pos p2 pos2 : Pos} {a b e : Expr} {a' b' : E}
/-- a range's bounds, as the evaluator has them -/
theorem rg_small {i j : Int} (hi : small i = true) (hj : small j = true) (hn : (j - i).toNat ≤ MAXL) : RgOk i j := by
  have h1 := small_le hi
  have h2 := small_le hj
  have h3 : MAXL = 100000 := rfl
  exact ⟨by omega, by omega, by omega, by omega, by omega⟩
def rgE (tup box : Bool) (st : St) (i j : Int) : W × St := match tup with
  | true => (.d (.tup false (rngUp i (j - i).toNat)), st)
  | false => mk box st (.fresh (rngUp i (j - i).toNat))
def rgO (tup : Bool) (i j : Int) : HO := match tup with
  | true => .tup (rgV i j)
  | false => .lst (rgV i j)
theorem rg_fin {tup box : Bool} {F : Hp} {ρ : List Addr} {st st' : St} {H : Hp} {w : W} {Q : VK} {i j : Int} (r : Rl T F ρ st H) (e : rgE tup box st i j = (w, st')) (fin : Fin T F ρ st' w H Q) :
    ∀ q, H q = none → Q (.ref q) (upd H q (rgO tup i j)) := by
  have e1 : w = (rgE tup box st i j).1 := by rw [e]
  have e2 : st' = (rgE tup box st i j).2 := by rw [e]
  subst e1 e2
  cases tup with
  | true => exact fin.tup r (rg_rds _ _)
  | false => exact fin.lst r (rg_rds _ _)
theorem small0 : small 0 = true := rfl
theorem rg1_step {tup box : Bool} {σ : L2.St} {H : Hp} {Q : VK} (h : tEv T (ev cl (.ofIt tup box (.rng1 a'))) σ H Q) :
    tRg1 (tEv T (ev cl a')) σ H fun i j H1 => RgOk i j ∧ ∀ q, H1 q = none → Q (.ref q) (upd H1 q (rgO tup i j)) := by
  obtain ⟨F, ρ, env, st, w, st', r, hE, e1, fin⟩ := h
  simp only [ev, evF] at e1
  split at e1
  · rename_i ds st1 h1
    split at h1
    · rename_i i st2 h2
      split at h1
      · rename_i hc
        simp only [Option.some.injEq, Prod.mk.injEq, Rf.Itr.seq.injEq] at h1
        obtain ⟨rfl, rfl⟩ := h1
        rw [Bool.and_eq_true] at hc
        refine ⟨F, ρ, env, st, _, _, r, hE, h2, fun F' ρ' H' v s' r' hw => ?_⟩
        cases (show v = .int i from hw)
        refine ⟨i, rfl, rg_small small0 hc.1 (by rw [Int.sub_zero]; exact Nat.le_of_ble_eq_true hc.2), rg_fin (tup := tup) (box := box) r' (w := w) (st' := st') ?_ (fin.step s')⟩
        unfold rgE
        rw [Int.sub_zero]
        cases tup <;> simpa using e1
      · cases h1
    · cases h1
  · cases e1
theorem rg2_step {tup box : Bool} {σ : L2.St} {H : Hp} {Q : VK} (h : tEv T (ev cl (.ofIt tup box (.rng2 a' b'))) σ H Q) :
    tRg2 (tEv T (ev cl a')) (tEv T (ev cl b')) σ H fun i j H1 => RgOk i j ∧ ∀ q, H1 q = none → Q (.ref q) (upd H1 q (rgO tup i j)) := by
  obtain ⟨F, ρ, env, st, w, st', r, hE, e1, fin⟩ := h
  simp only [ev, evF] at e1
  split at e1
  · rename_i ds st1 h1
    split at h1
    · rename_i i st2 h2
      split at h1
      · rename_i j st3 h3
        split at h1
        · rename_i hc
          simp only [Option.some.injEq, Prod.mk.injEq, Rf.Itr.seq.injEq] at h1
          obtain ⟨rfl, rfl⟩ := h1
          rw [Bool.and_eq_true, Bool.and_eq_true] at hc
          refine ⟨F, ρ, env, st, _, _, r, hE, h2, fun F' ρ' H' v s' r' hw => ?_⟩
          refine ⟨F', ρ', env, _, _, _, r', hE.step s', h3, fun F2 ρ2 H2 u s2 r2 hu => ?_⟩
          cases (show v = .int i from hw)
          cases (show u = .int j from hu)
          refine ⟨i, j, rfl, rfl, rg_small hc.1.1 hc.1.2 (Nat.le_of_ble_eq_true hc.2), rg_fin (tup := tup) (box := box) r2 (w := w) (st' := st') ?_ (fin.step (s'.trans s2))⟩
          unfold rgE
          cases tup <;> simpa using e1
        · cases h1
      · cases h1
    · cases h1
  · cases e1
theorem pv_ofRg1 {tup box : Bool} (hc : X.calm = true) (hg : Gl X (if tup then "tuple" else "list")) (hm : X.mg (if tup then "tuple" else "list") = none) (hg2 : Gl X "range") (hm2 : X.mg "range" = none) (pa : plainE a = true) (ha : PE X a (tEv T (ev cl a'))) :
    PE X (.Call (.Name (if tup then "tuple" else "list") p) [.Call (.Name "range" p2) [a] [] pos2] [] pos) (tEv T (ev cl (.ofIt tup box (.rng1 a')))) := by
  have h1 := prg_1 (X := X) (p := p2) (pos := pos2) hg2 hm2 ha (starEach_plain pa [] X.env)
  cases tup with
  | true => exact (pe_tupRg (p := p) (pos := pos) hc hg hm h1).mono fun σ H Q h => rg1_step h
  | false => exact (pe_listRg (p := p) (pos := pos) hc hg hm h1).mono fun σ H Q h => rg1_step h
theorem pv_ofRg2 {tup box : Bool} (hc : X.calm = true) (hg : Gl X (if tup then "tuple" else "list")) (hm : X.mg (if tup then "tuple" else "list") = none) (hg2 : Gl X "range") (hm2 : X.mg "range" = none) (pa : plainE a = true) (pb : plainE b = true) (ha : PE X a (tEv T (ev cl a'))) (hb : PE X b (tEv T (ev cl b'))) :
    PE X (.Call (.Name (if tup then "tuple" else "list") p) [.Call (.Name "range" p2) [a, b] [] pos2] [] pos) (tEv T (ev cl (.ofIt tup box (.rng2 a' b')))) := by
  have h1 := prg_2 (X := X) (p := p2) (pos := pos2) hg2 hm2 ha hb (starEach_plain pa _ X.env) (starEach_plain pb [] X.env) (by rw [plain1 pb]; rfl)
  cases tup with
  | true => exact (pe_tupRg (p := p) (pos := pos) hc hg hm h1).mono fun σ H Q h => rg2_step h
  | false => exact (pe_listRg (p := p) (pos := pos) hc hg hm h1).mono fun σ H Q h => rg2_step h
end
section
variable {X : Cx} {T : List Addr} {cl : Calls} {pos spos py : Pos}
theorem ps_lc {i : Nat} {y : Str} {elt tg iter : Expr} {ifs : List Expr} {scope : Scope} {own : List (Str × Nat)} {elt' it' : E} {t : Rf.T} {fs : List E} {md box : Bool} (hc : X.calm = true) (hN : X.N.Nodup) (hy : X.N[i]? = some y) (hyl : X.env.scope.names.lookup y = some .local)
    (hsw : swapsWith (.ListComp elt [⟨tg, iter, ifs, 0⟩] scope pos) (some (.Name y py)) spos.line X.env = pure true) (hpl : plainE iter = true) (hi : PI X tg iter (tIv T (evF cl it'))) (ok : BlkOk X.N X.env.scope scope own) (ht : tgIn (own.map (·.2)) t = true)
    (hg : ∀ (s : Shared) (H : Hp) (C : Addr) (cl : List (Str × Addr)) (fp : List Addr), PG (X.blk s H scope (compEnvC scope cl C X.env) fp) tg (tTg T t)) (hts : ∀ (s : Shared) (H : Hp) (C : Addr) (cl' : List (Str × Addr)) (fp : List Addr), PTs (X.blk s H scope (compEnvC scope cl' C X.env) fp) ifs (tTs T (tests (evT cl fs))))
    (he : ∀ (s : Shared) (H : Hp) (C : Addr) (cl' : List (Str × Addr)) (fp : List Addr), PE (X.blk s H scope (compEnvC scope cl' C X.env) fp) elt (tEv T (ev cl elt'))) :
    PS X (.Assign [.Name y py] (.ListComp elt [⟨tg, iter, ifs, 0⟩] scope pos) spos) (tSx T (ex cl (.asg (.nm i) (.pur md box (.comp elt' (own.map (·.2)) t it' fs))))) :=
  (ps_setLc hc hN hy hyl hsw hi ok hg hts he (fun x => by cases iter <;> first | rfl | cases hpl)).mono fun D σ H h => lc_step ht (pur_step (asg_step h))
end
end Rf
/-! Rf32: calls of built-in functions and methods as expressions. -/
namespace Rf
open PySem PySem.Spec PyProof.Rows L2 PySem.W
section
variable {X : Cx} {T : List Addr} {cl : Calls} {p pos p2 apos cpos : Pos} {e e2 o : Expr} {es : List Expr} {e' e2' o' : E} {es' : List E} {x : Str} {id ty : String} {pr : Prim} {box : Bool} {f : D → Option PR} {g : D → D → Option PR}
theorem tWs_mono {F : Env → St → Option (List W × St)} {σ : L2.St} {H : Hp} {Q Q' : List V → Hp → Prop} (h : tWs T F σ H Q) (m : ∀ vs H1, Q vs H1 → Q' vs H1) : tWs T F σ H Q' := by
  obtain ⟨F, ρ, env, st, ws, st', r, hE, e1, fin⟩ := h
  exact ⟨F, ρ, env, st, ws, st', r, hE, e1, fun F' ρ' H' vs s' r' hw => m _ _ (fin F' ρ' H' vs s' r' hw)⟩
theorem prim_un (hp : prim pr = un f) {σ : L2.St} {H : Hp} {Q : VK} (h : tEv T (ev cl (.prim pr box es')) σ H Q) : tCB (rU1 f) (tWs T (evW cl es')) σ H Q :=
  tWs_mono (prim_step h) fun vs H1 ⟨F, ds, r, l, hv, hr, hQ⟩ => un_r l hv (by rw [← hp]; exact hr) hQ
theorem prim_bi (hp : prim pr = bi g) {σ : L2.St} {H : Hp} {Q : VK} (h : tEv T (ev cl (.prim pr box es')) σ H Q) : tCB (rB2 g) (tWs T (evW cl es')) σ H Q :=
  tWs_mono (prim_step h) fun vs H1 ⟨F, ds, r, l, hv, hr, hQ⟩ => bi_r l hv (by rw [← hp]; exact hr) hQ
theorem pv_unB (hp : prim pr = un f) (hr : CallR X (.builtin id) (rU1 f)) (hg : Gl X x) (hm : X.mg x = none) (hv : bootBuiltins x = some (.builtin id)) (hn : x ≠ "__name__") (hd : (x == ("__debug__" : Str)) = false) (pa : plainE e = true) (ha : PE X e (tEv T (ev cl e'))) :
    PE X (.Call (.Name x p) [e] [] pos) (tEv T (ev cl (.prim pr box [e']))) :=
  (pe_callB hr hg hm hv (pa_W1 pa ha pa_W0) hn hd (starEach_plain pa _ X.env) rfl).mono fun _ _ _ h => prim_un hp h
theorem pv_unT (hp : prim pr = un f) (hr : CallR X (.type ty) (rU1 f)) (hg : Gl X x) (hm : X.mg x = none) (hv : bootBuiltins x = some (.type ty)) (hn : x ≠ "__name__") (hd : (x == ("__debug__" : Str)) = false) (pa : plainE e = true) (ha : PE X e (tEv T (ev cl e'))) :
    PE X (.Call (.Name x p) [e] [] pos) (tEv T (ev cl (.prim pr box [e']))) :=
  (pe_callTy hr hg hm hv (pa_W1 pa ha pa_W0) hn hd (starEach_plain pa _ X.env) rfl).mono fun _ _ _ h => prim_un hp h
theorem pv_biB (hp : prim pr = bi g) (hr : CallR X (.builtin id) (rB2 g)) (hg : Gl X x) (hm : X.mg x = none) (hv : bootBuiltins x = some (.builtin id)) (hn : x ≠ "__name__") (hd : (x == ("__debug__" : Str)) = false) (pa : plainE e = true) (pb : plainE e2 = true) (ha : PE X e (tEv T (ev cl e'))) (hb : PE X e2 (tEv T (ev cl e2'))) :
    PE X (.Call (.Name x p) [e, e2] [] pos) (tEv T (ev cl (.prim pr box [e', e2']))) :=
  (pe_callB hr hg hm hv (pa_W1 pa ha (pa_W1 pb hb pa_W0)) hn hd (starEach_plain pa _ X.env) (by rw [plain1 pb]; rfl)).mono fun _ _ _ h => prim_bi hp h
theorem pv_gcd (hg : Gl X x) (hm : X.mg x = some (.builtin "math.gcd")) (hd : (x == ("__debug__" : Str)) = false) (pa : plainE e = true) (pb : plainE e2 = true) (ha : PE X e (tEv T (ev cl e'))) (hb : PE X e2 (tEv T (ev cl e2'))) :
    PE X (.Call (.Name x p) [e, e2] [] pos) (tEv T (ev cl (.prim .gcd box [e', e2']))) :=
  (pe_callBfun pr_gcd hg hm (pa_W1 pa ha (pa_W1 pb hb pa_W0)) hd (starEach_plain pa _ X.env) (by rw [plain1 pb]; rfl)).mono fun _ _ _ h => prim_bi (g := pGcd) rfl h
/-- isinstance(e, T) -/
def isP : IsT → Prim
  | .int => .isInt
  | .bool => .isBool
  | .str => .isStr
  | .tuple => .isTup
theorem isP_un (t : IsT) : prim (isP t) = un (pIs t.f) := by cases t <;> rfl
theorem boot_isT (t : IsT) : bootBuiltins (Str.ofString t.nm) = some (.type t.nm) := by cases t <;> decide +kernel
theorem boot_isi : bootBuiltins "isinstance" = some (.builtin "isinstance") := by decide +kernel
def tIs (t : IsT) (te : TA) : TA := fun σ H Q => te σ H fun vs H1 => ∃ v, vs = [v] ∧ Q [v, .ty t.nm] H1
theorem pv_is (t : IsT) (hg : Gl X "isinstance") (hm : X.mg "isinstance" = none) (hg2 : Gl X (Str.ofString t.nm)) (hm2 : X.mg (Str.ofString t.nm) = none) (pa : plainE e = true) (ha : PE X e (tEv T (ev cl e'))) :
    PE X (.Call (.Name "isinstance" p) [e, .Name (Str.ofString t.nm) p2] [] pos) (tEv T (ev cl (.prim (isP t) box [e']))) := by
  have h2 : PE X (.Name (Str.ofString t.nm) p2) (tC (.ty t.nm)) := pe_bltn hg2 hm2 (boot_isT t) rfl (by cases t <;> decide) (by cases t <;> decide)
  have h3 : PA X [e, .Name (Str.ofString t.nm) p2] (fun σ H Q => tEv T (ev cl e') σ H fun v H1 => Q [v, .ty t.nm] H1) :=
    (pa_cons ha (pa_cons h2 pa_nil (plain1 rfl X.env)) (starEach_plain pa _ X.env)).mono fun σ H Q h => h
  refine (pe_callB (pr_is t) hg hm boot_isi h3 (by decide) (by decide) (starEach_plain pa _ X.env) (by rw [plain1 rfl]; rfl)).mono fun σ H Q h => ?_
  obtain ⟨F, ρ, env, st, ws, st', r, hE, e1, fin⟩ := prim_step h
  have e2 : ∃ w, ws = [w] ∧ ev cl e' env st = some (w, st') := by
    simp only [evW] at e1
    split at e1
    · rename_i w st1 h1
      cases e1
      exact ⟨w, rfl, h1⟩
    · cases e1
  obtain ⟨w, rfl, e2⟩ := e2
  refine ⟨F, ρ, env, st, w, st', r, hE, e2, fun F' ρ' H' v s' r' hw => ?_⟩
  obtain ⟨F2, ds, r2, l, hv, hr, hQ⟩ := fin F' ρ' H' [v] s' r' ⟨v, [], rfl, hw, rfl⟩
  rw [isP_un] at hr
  obtain ⟨d, rfl, hd⟩ := un_inv hr
  obtain ⟨v2, rest, e3, h1, h4⟩ := hv
  cases e3
  exact ⟨F2, v, d, r2, rfl, l, h1, hd, hQ⟩
/-! methods: o.m(e) -/
structure MAlt (X : Cx) (name : Str) (ty : V → Hp → Prop) (r : V → List V → Hp → VK → Prop) : Prop where
  ex : ∃ (T id : String), PlainAttrs T ∧ Slot T name id ∧ typeOf (.builtin id) = pure (.type "method_descriptor") ∧ TyOk X T ty ∧ MtR X id r
def tMA (X : Cx) (name : Str) (to : TE) (t : TA) : TE := fun σ H Q => to σ H fun x H1 => ∃ (ty : V → Hp → Prop) (r : V → List V → Hp → VK → Prop), MAlt X name ty r ∧ ty x H1 ∧ t σ H1 fun xs H2 => r x xs H2 Q
theorem pe_mA {name : Str} {to : TE} {t : TA} (ho : PE X o to) (hbase : attributeBase o name X.env (eval o X.env) = eval o X.env) (hline : (apos.endLine == cpos.line) = true) (pa : plainE e = true) (ha : PA X [e] t) : PE X (.Call (.Attribute o name apos) [e] [] cpos) (tMA X name to t) := by
  refine ⟨fun pins s σ H Q I h => ?_⟩
  refine wpAny_Call_method_late hbase (few1 pa X.env) hline rfl (thn (ho.run pins s σ H _ I h) fun v s1 ⟨x, H1, I1, r1, ty, r, ⟨T, id, pl, slot, hty, ht, hm⟩, ty1, q1⟩ => ?_)
  obtain ⟨h1, h2⟩ := ht _ _ _ _ _ _ I1 r1 ty1
  refine ⟨T, id, pl, slot, hty, h1, h2, ?_⟩
  have hA := ha.run cpos pins s1 σ H1 _ I1 q1
  rw [plain1 pa] at hA ⊢
  refine Calls.callWith_builtin rfl (Calls.evalArgs_plain ?_)
  exact thn hA fun us s2 ⟨vs, H2, I2, r2, q2⟩ => hm pins s2 σ H2 x vs v us Q I2 r1 r2 q2
def tyL (X : Cx) (x : V) (H : Hp) : Prop := ∃ p xs, x = .ref p ∧ SqL X.K H p xs
def tyS (x : V) (_ : Hp) : Prop := ∃ z, x = .str z
theorem ty_L : TyOk X "list" (tyL X) := fun pins σ H s x v I r ⟨p, xs, e, h⟩ => by
  subst e
  exact tyV_is (T := "list") I r (.inl ⟨rfl, xs, h⟩)
theorem ty_S : TyOk X "str" tyS := fun pins σ H s x v I r ⟨z, e⟩ => by
  subst e
  exact tyV_is (T := "str") I r rfl
theorem ma_index (hu : X.A.units + 100 < cLine) : MAlt X "index" (tyL X) (mtL pIndex false) := ⟨_, _, PySem.F.plainAttrs_list, PySem.F.slot_list_index, PySem.F.type_list_index, ty_L, pm_lindex hu⟩
theorem ma_tindex (hu : X.A.units + 100 < cLine) : MAlt X "index" tyT (mtL pIndex true) := ⟨_, _, PySem.F.plainAttrs_tuple, PySem.F.slot_tuple_index, PySem.F.type_tuple_index, ty_T, pm_tindex hu⟩
theorem ma_count (hu : X.A.units + 100 < cLine) : MAlt X "count" (tyL X) (mtL pCount false) := ⟨_, _, PySem.F.plainAttrs_list, PySem.F.slot_list_count, PySem.F.type_list_count, ty_L, pm_lcount hu⟩
theorem ma_tcount (hu : X.A.units + 100 < cLine) : MAlt X "count" tyT (mtL pCount true) := ⟨_, _, PySem.F.plainAttrs_tuple, PySem.F.slot_tuple_count, PySem.F.type_tuple_count, ty_T, pm_tcount hu⟩
theorem ma_scount : MAlt X "count" tyS rSC := ⟨_, _, PySem.F.plainAttrs_str, PySem.F.slot_str_count, PySem.F.type_str_count, ty_S, pm_scount⟩
theorem ma_join : MAlt X "join" tyS (rM1 pJoin) := ⟨_, _, PySem.F.plainAttrs_str, PySem.F.slot_str_join, PySem.F.type_str_join, ty_S, pm_join⟩
/-- the methods that have a rule -/
def methP : Prim → Option Str
  | .index => some "index"
  | .count => some "count"
  | .join => some "join"
  | _ => none
theorem meth_alt (hu : X.A.units + 100 < cLine) {pr : Prim} {name : Str} (hp : methP pr = some name) {F H : Hp} {d1 : D} {x : V} (l : Le F H) (h : RT F H d1 x) (hk : kindD d1 ≠ .no) (hw : ∃ d q res, kindD d1 = kindD d ∧ prim pr [d, q] = some (.d res)) :
    ∃ ty r, MAlt X name ty r ∧ ty x H ∧ ∀ (F2 H2 : Hp) (v : V) (d q res : D) (Q : VK), Le F2 H2 → RT F2 H2 d x → RT F2 H2 q v → kindD d1 = kindD d → prim pr [d, q] = some (.d res) → (∀ v H', PRo F2 H2 (.d res) v H' → Q v H') → r x [v] H2 Q := by
  have lst : ∀ ds, d1 = .lst ds → tyL X x H := fun ds e => by
    subst e
    obtain ⟨p, vs, rfl, h1, _⟩ := lst_at h
    exact ⟨p, vs, rfl, SqL.of h1⟩
  have tup : ∀ ds, d1 = .tup true ds → tyT x H := fun ds e => by
    subst e
    obtain ⟨p, vs, rfl, h1, _⟩ := tup_at h
    obtain ⟨o, h2, h3⟩ := h1.le l
    exact ⟨p, o, vs, rfl, h2, h3⟩
  have str : ∀ z, d1 = .str z → tyS x H := fun z e => by
    subst e
    exact ⟨_, h⟩
  have kl : ∀ (ds : List D) (d : D), d1 = .lst ds → kindD d1 = kindD d → ∃ es, d = .lst es := fun ds d e hk => by
    subst e
    cases d with
    | lst es => exact ⟨es, rfl⟩
    | tup k es => cases k <;> cases hk
    | _ => cases hk
  have kt : ∀ (ds : List D) (d : D), d1 = .tup true ds → kindD d1 = kindD d → ∃ es, d = .tup true es := fun ds d e hk => by
    subst e
    cases d with
    | tup k es => cases k with
      | true => exact ⟨es, rfl⟩
      | false => cases hk
    | _ => cases hk
  have ks : ∀ (z : List Nat) (d : D), d1 = .str z → kindD d1 = kindD d → ∃ y, d = .str y := fun z d e hk => by
    subst e
    cases d with
    | str y => exact ⟨y, rfl⟩
    | tup k es => cases k <;> cases hk
    | _ => cases hk
  have cases3 : (∃ ds, d1 = .lst ds) ∨ (∃ ds, d1 = .tup true ds) ∨ ∃ z, d1 = .str z := by
    cases d1 with
    | lst ds => exact .inl ⟨ds, rfl⟩
    | tup k ds => cases k with
      | true => exact .inr (.inl ⟨ds, rfl⟩)
      | false => exact absurd rfl hk
    | str z => exact .inr (.inr ⟨z, rfl⟩)
    | _ => exact absurd rfl hk
  obtain ⟨d0, q0, r0, hk0, hr0⟩ := hw
  cases pr with
  | index =>
    cases hp
    rcases cases3 with ⟨ds, e⟩ | ⟨ds, e⟩ | ⟨z, e⟩
    · refine ⟨_, _, ma_index hu, lst ds e, fun F2 H2 v d q res Q l2 hd hq hk hr hQ => ?_⟩
      obtain ⟨es, rfl⟩ := kl ds d e hk
      exact ⟨F2, v, es, q, _, rfl, l2, hd, hq, hr, hQ⟩
    · refine ⟨_, _, ma_tindex hu, tup ds e, fun F2 H2 v d q res Q l2 hd hq hk hr hQ => ?_⟩
      obtain ⟨es, rfl⟩ := kt ds d e hk
      exact ⟨F2, v, es, q, _, rfl, l2, hd, hq, hr, hQ⟩
    · obtain ⟨y, rfl⟩ := ks z d0 e hk0
      cases hr0
  | count =>
    cases hp
    rcases cases3 with ⟨ds, e⟩ | ⟨ds, e⟩ | ⟨z, e⟩
    · refine ⟨_, _, ma_count hu, lst ds e, fun F2 H2 v d q res Q l2 hd hq hk hr hQ => ?_⟩
      obtain ⟨es, rfl⟩ := kl ds d e hk
      exact ⟨F2, v, es, q, _, rfl, l2, hd, hq, hr, hQ⟩
    · refine ⟨_, _, ma_tcount hu, tup ds e, fun F2 H2 v d q res Q l2 hd hq hk hr hQ => ?_⟩
      obtain ⟨es, rfl⟩ := kt ds d e hk
      exact ⟨F2, v, es, q, _, rfl, l2, hd, hq, hr, hQ⟩
    · refine ⟨_, _, ma_scount, str z e, fun F2 H2 v d q res Q l2 hd hq hk hr hQ => ?_⟩
      obtain ⟨y, rfl⟩ := ks z d e hk
      exact ⟨F2, v, _, q, _, rfl, l2, hd, hq, hr, hQ⟩
  | join =>
    cases hp
    rcases cases3 with ⟨ds, e⟩ | ⟨ds, e⟩ | ⟨z, e⟩
    · obtain ⟨y, rfl⟩ := kl ds d0 e hk0
      cases hr0
    · obtain ⟨y, rfl⟩ := kt ds d0 e hk0
      cases hr0
    · refine ⟨_, _, ma_join, str z e, fun F2 H2 v d q res Q l2 hd hq hk hr hQ => ?_⟩
      obtain ⟨y, rfl⟩ := ks z d e hk
      exact ⟨F2, v, _, q, _, rfl, l2, hd, hq, hr, hQ⟩
  | _ => cases hp
theorem meth_kind {pr : Prim} {name : Str} {d q : D} {res : D} (hp : methP pr = some name) (hr : prim pr [d, q] = some (.d res)) : kindD d ≠ .no := by
  have fin : ∀ d : D, kindD d = .no → pIndex d q = none ∧ pCount d q = none ∧ pJoin d q = none := fun d h => by
    match d, h with
    | .non, _ => exact ⟨rfl, rfl, rfl⟩
    | .bl _, _ => exact ⟨rfl, rfl, rfl⟩
    | .int _, _ => exact ⟨rfl, rfl, rfl⟩
    | .tup false _, _ => exact ⟨rfl, rfl, rfl⟩
    | .dct _ _, _ => exact ⟨rfl, rfl, rfl⟩
  intro z
  obtain ⟨h1, h2, h3⟩ := fin d z
  cases pr with
  | index => rw [show prim .index [d, q] = pIndex d q from rfl, h1] at hr; cases hr
  | count => rw [show prim .count [d, q] = pCount d q from rfl, h2] at hr; cases hr
  | join => rw [show prim .join [d, q] = pJoin d q from rfl, h3] at hr; cases hr
  | _ => cases hp
theorem pv_meth (hu : X.A.units + 100 < cLine) {pr : Prim} {name : Str} (hp : methP pr = some name) (ho : PE X o (tEv T (ev cl o'))) (hbase : attributeBase o name X.env (eval o X.env) = eval o X.env) (hline : (apos.endLine == cpos.line) = true) (pa : plainE e = true) (ha : PE X e (tEv T (ev cl e'))) :
    PE X (.Call (.Attribute o name apos) [e] [] cpos) (tEv T (ev cl (.meth pr o' e'))) := by
  refine (pe_mA ho hbase hline pa (pa_W1 pa ha pa_W0)).mono fun σ H Q ⟨F, ρ, env, st, w, st', r, hE, e1, fin⟩ => ?_
  simp only [ev] at e1
  split at e1
  · rename_i x st1 h1
    split at e1
    · rename_i d1 hv1
      split at e1
      · rename_i y st2 h2
        split at e1
        · rename_i d q hv2
          split at e1
          · rename_i hk
            split at e1
            · rename_i res hr
              cases e1
              have hk := of_decide_eq_true hk
              refine ⟨F, ρ, env, st, x, st1, r, hE, h1, fun F1 ρ1 H1 u1 s1 r1 w1 => ?_⟩
              have kn : kindD d1 ≠ .no := by
                rw [hk]
                exact meth_kind hp hr
              obtain ⟨ty, rr, hA, hty, hgo⟩ := meth_alt (X := X) hu hp r1.sub (view_ok r1 w1 hv1) kn ⟨d, q, res, hk, hr⟩
              refine ⟨ty, rr, hA, hty, F1, ρ1, env, st1, [y], _, r1, hE.step s1, evW_1 h2, fun F2 ρ2 H2 vs s2 r2 hws => ?_⟩
              obtain ⟨v, t, rfl, hy, ht⟩ := hws
              cases ht
              obtain ⟨g1, g2⟩ := view2_inv hv2
              refine hgo F2 H2 v d q res Q r2.sub (view_ok r2 (w1.step s2) g1) (view_ok r2 hy g2) hk hr fun v H' hpo => ?_
              exact Fin.po (p := .d res) (box := false) (st := _) (fin.step (s1.trans s2)) r2 hpo
            · cases e1
          · cases e1
        · cases e1
      · cases e1
    · cases e1
  · cases e1
end
end Rf
/-! Rf33: dict comprehensions with keys of any kind. -/
namespace Rf
open PySem PySem.Spec PyProof.Rows L2 PySem.W
section
variable {X : Cx} {pins : List (Addr × Obj)} {σ : L2.St} {H : Hp} {s : Shared}
/-- d[y] = v by a comprehension -/
theorem d_dput {E : Value → Shared → Prop} {a : Addr} {y v : V} {u r : Value} {H' : Hp} {Q : Unit → Shared → Prop} (hu : X.A.units + 1 < cLine) (I : Inv X pins σ H s) (g : DPut H a y v H') (ry : RelV y u) (rv : RelV v r) (h : ∀ s', Inv X pins σ H' s' → Q () s') :
    wpAny (model X.prog X.w) X.A (dictSet a u r) Q E s := by
  rcases g with ⟨kvs, k, e, ey, l, eH⟩ | ⟨kvs, k, b, e, ey, eb, l, eH⟩
  · subst ey eH
    exact d_dictSet I e l ry rv h
  · subst ey eH
    cases (show u = Value.ref b from ry)
    obtain ⟨z, hd, xs, rel, dd⟩ := dt_of I.hok e
    have hz : xs.length ≤ sizeLine := by rw [← Paired.length rel]; exact z
    have hl : (putK kvs k v).length ≤ sizeLine := by
      have := length_putK kvs k v
      omega
    refine wpAny_dictSet_heap (hsz := hz) (knd := tupleKind (mixKind X.prog X.w)) (show X.A.units < cLine by omega) (key_of I.hok eb) dd fun h' dd' hs => h _ ?_
    obtain ⟨q, es, ep, hq, h2, h3, h4, _, h5⟩ := dd'
    refine d_write I (by rw [e]; exact True.intro) hs ⟨q, hq⟩ ⟨hl, hd, _, (rel.put k eb rv).keeps fun c ys ec => ?_, q, es, ep, hq, h2, h3, h4, h5⟩
    rw [upd_ne (ne_of ec e (fun z => nomatch z))]
    exact ec
/-- the step of a turn: the pair is put -/
def KPut (H : Hp) (D : Addr) (y z : V) (N : Hp → Prop) : Prop := ∃ (κ : Type) (i : DecidableEq κ) (En : KeyEnc κ) (kk : κ) (kvs : List (κ × V)) (mkd : List (κ × V) → HO), KS H D y H κ En kk kvs mkd ∧ kvs.length < sizeLine ∧ N (upd H D (mkd (putK kvs kk z)))
theorem kput_run {E : Value → Shared → Prop} {D : Addr} {y z : V} {u r : Value} {N : Hp → Prop} {Q : Unit → Shared → Prop} (hu : X.A.units + 1 < cLine) (I : Inv X pins σ H s) (k : KPut H D y z N) (ry : RelV y u) (rv : RelV z r) (h : ∀ H' s', N H' → Inv X pins σ H' s' → Q () s') :
    wpAny (model X.prog X.w) X.A (dictSet D u r) Q E s := by
  obtain ⟨κ, i, En, kk, kvs, mkd, kS, hl, hN⟩ := k
  obtain ⟨H2, I2, g⟩ := dput_any (v := z) kS hl I
  exact d_dput hu I2 g ry rv fun s' I' => h _ s' hN I'
end
def tDcA (wi : TI) (g : TG) (tt : TT) (tk tv : TE) (vs : List Nat) : TE := fun σ H Q => wi σ H fun J H1 => ∀ D, H1 D = none → ∃ W : Nat → Nat → Hp → Prop, (∃ m, W 0 m (upd H1 D (.dK []))) ∧ ∀ i m H, W i m H →
  (J.stop i H ∧ Q (.ref D) H) ∨ (J.go i H ∧ ∃ Nx : Hp → Prop, (∀ H', Nx H' → ∃ m', m' < m ∧ W (i + 1) m' H') ∧ ∀ x H', J.yld i H x H' → g x (wipe σ vs) H' fun σ2 H2 => wipe σ2 vs = wipe σ vs ∧ tt σ2 H2 fun b H3 =>
    if b = true then tk σ2 H3 fun y H4 => tv σ2 H4 fun z H5 => KPut H5 D y z Nx else Nx H3)
end Rf
/-! Rf34: the block of a dict comprehension. -/
namespace Rf
open PySem PySem.Spec PyProof.Rows L2 PySem.W
section
variable {X : Cx}
/-- one run of the block's loop, from its first turn on -/
theorem dcA_loop {kx vx tg iter : Expr} {ifs : List Expr} {scope : Scope} {own : List (Str × Nat)} {pos : Pos} {g : TG} {tt : TT} {tk tv : TE} {Y : Cx} {ce : PySem.Env} {σ : L2.St} {H1 H3 : Hp} {s1 s4 : Shared} {D it : Addr} {fp : List Addr} {tn : Nat → Heap → Prop} {J : It}
    {W : Nat → Nat → Hp → Prop} {m0 : Nat} {R : Result → Shared → Prop} {Q : VK} (hu : X.A.units + 1 < cLine) (hc : X.calm = true) (eY : Y = X.blk s1 H1 scope ce fp) (T : Turn X.prog X.w X.K tg J fp it tn)
    (pg : PG Y tg g) (pt : PTs Y ifs tt) (pk : PE Y kx tk) (pv : PE Y vx tv) (I4 : Inv Y [] (wipe σ (own.map (·.2))) H3 s4) (st4 : tn 0 s4.heap) (n4 : ∀ b ∈ fp, H3 b = none) (w0 : W 0 m0 H3)
    (turn : ∀ i m H, W i m H → (J.stop i H ∧ Q (.ref D) H) ∨ (J.go i H ∧ ∃ Nx : Hp → Prop, (∀ H', Nx H' → ∃ m', m' < m ∧ W (i + 1) m' H') ∧ ∀ x H', J.yld i H x H' → g x (wipe σ (own.map (·.2))) H' fun σ2 H2 => wipe σ2 (own.map (·.2)) = wipe σ (own.map (·.2)) ∧ tt σ2 H2 fun b H3 =>
      if b = true then tk σ2 H3 fun y H4 => tv σ2 H4 fun z H5 => KPut H5 D y z Nx else Nx H3))
    (last : ∀ H' s', Inv Y [] (wipe σ (own.map (·.2))) H' s' → Q (.ref D) H' → R (.ok .next) s') :
    codeAny (model X.prog X.w) X.A (.compLoop (.DictComp kx vx [⟨tg, iter, ifs, 0⟩] scope pos) 0 (.ref it) (.ref D) ce) R s4 := by
  subst eY
  have okFp : ∀ {σ' : L2.St} {H' : Hp} {s' : Shared}, Inv (X.blk s1 H1 scope ce fp) [] σ' H' s' → (∀ b ∈ fp, H' b = none) → ∀ b ∈ fp, FpOk (X.blk s1 H1 scope ce fp) [] H' b := fun {σ' H' s'} J hn b hb =>
    ⟨hn b hb, (J.ok.exf b hb).1, J.ok.exfs b hb, .inl hb, fun x c e => (J.ok.exf b hb).2 x c e, fun q hq => absurd (show q ∈ ([] : List (Addr × Obj)) ++ [] from hq) (by simp)⟩
  refine compLoop_anyD (fun n s' => ∃ i H', Inv (X.blk s1 H1 scope ce fp) [] (wipe σ (own.map (·.2))) H' s' ∧ tn i s'.heap ∧ (∀ b ∈ fp, H' b = none) ∧ W i n H') (fun n s5 h5 => ?_) m0 ⟨0, H3, I4, st4, n4, w0⟩
  obtain ⟨i, H5, I5, st5, n5, w5⟩ := h5
  rcases turn i n H5 w5 with ⟨stop, qq⟩ | ⟨go, Nx, hNx, step⟩
  · refine thnF (T.done (X.blk s1 H1 scope ce fp) rfl rfl rfl hc i [] s5 _ H5 (fun _ _ => False) I5 (okFp I5 n5) st5 stop) fun r s6 ⟨hr, I6⟩ => ?_
    subst hr
    exact last H5 s6 I6 qq
  · refine thnF (T.item (X.blk s1 H1 scope ce fp) rfl rfl rfl hc i [] s5 _ H5 (fun _ _ => False) I5 (okFp I5 n5) st5 go) fun r s6 ⟨u, hr, h6⟩ => ?_
    subst hr
    refine thnF h6 fun _ s7 ⟨x, H7, I7, r7, y7, st7, n7⟩ => ?_
    have pinned := I7.pinned (okFp I7 n7) (T.obj _ _ st7)
    refine thnF (pg.run _ s7 _ H7 x u _ pinned r7 (step x H7 y7)) fun _ s8 ⟨σ8, H8, I8, hw8, q8⟩ => ?_
    refine thnF (pt.run _ s8 σ8 H8 _ I8 q8) fun b s9 ⟨H9, I9, q9⟩ => ?_
    have again : ∀ {s' : Shared} {H' : Hp}, Inv (X.blk s1 H1 scope ce fp) ([] ++ pinsAt fp s7.heap) σ8 H' s' → Nx H' → ∃ m, m < n ∧ ∃ i H', Inv (X.blk s1 H1 scope ce fp) [] (wipe σ (own.map (·.2))) H' s' ∧ tn i s'.heap ∧ (∀ b ∈ fp, H' b = none) ∧ W i m H' := fun {s' H'} J nx => by
      obtain ⟨m', hm, w'⟩ := hNx H' nx
      have stood : ∀ b ∈ fp, ∀ o, s7.heap.get? b = some o → s'.heap.get? b = some o ∧ H' b = none := fun b hb o e => by
        obtain ⟨z1, z2, _⟩ := J.pin (b, o) (List.mem_append_right _ (List.mem_append_right _ (mem_pinsAt hb e)))
        exact ⟨z1, z2⟩
      refine ⟨m', hm, i + 1, H', (J.unpinned (pins := [])).weak (by rw [← hw8, wipe_length]) (fun j v e => ?_), T.keep _ _ _ st7 fun b hb o e => (stood b hb o e).1, fun b hb => ?_, w'⟩
      · rw [← hw8] at e
        exact (wipe_some e).1
      · obtain ⟨o, e, _⟩ := T.obj _ _ st7 b hb
        exact (stood b hb o e).2
    cases b with
    | false =>
      rw [if_neg (by decide)] at q9 ⊢
      exact again I9 q9
    | true =>
      rw [if_pos rfl] at q9 ⊢
      refine thnF (pk.run _ s9 σ8 H9 _ I9 q9) fun z s10 ⟨yk, H10, I10, r10, q10⟩ => ?_
      refine thnF (pv.run _ s10 σ8 H10 _ I10 q10) fun z2 s11 ⟨yv, H11, I11, r11, kp⟩ => ?_
      exact kput_run (X := X.blk s1 H1 scope ce fp) hu I11 kp r10 r11 fun H' s12 nx I12 => again I12 nx
/-- the whole comprehension; use: what is done with it on the spot -/
theorem dcA_core {pins : List (Addr × Obj)} {s : Shared} {σ : L2.St} {H : Hp} {Q : VK} {kx vx tg iter : Expr} {ifs : List Expr} {scope : Scope} {own : List (Str × Nat)} {pos pos' : Pos} {wi : TI} {g : TG} {tt : TT} {tk tv : TE} {use : Option (Value → Sem Unit)} {Qf : Value → Shared → Prop}
    (hu : X.A.units + 1 < cLine) (hc : X.calm = true) (hN : X.N.Nodup) (I : Inv X pins σ H s) (hi : PI X tg iter wi) (ok : BlkOk X.N X.env.scope scope own)
    (hg : ∀ (s : Shared) (H : Hp) (C : Addr) (cl : List (Str × Addr)) (fp : List Addr), PG (X.blk s H scope (compEnvC scope cl C X.env) fp) tg g) (ht : ∀ (s : Shared) (H : Hp) (C : Addr) (cl : List (Str × Addr)) (fp : List Addr), PTs (X.blk s H scope (compEnvC scope cl C X.env) fp) ifs tt)
    (hk : ∀ (s : Shared) (H : Hp) (C : Addr) (cl : List (Str × Addr)) (fp : List Addr), PE (X.blk s H scope (compEnvC scope cl C X.env) fp) kx tk) (hv : ∀ (s : Shared) (H : Hp) (C : Addr) (cl : List (Str × Addr)) (fp : List Addr), PE (X.blk s H scope (compEnvC scope cl C X.env) fp) vx tv)
    (hs : ∀ x, foldedSetIterable iter X.env x = pure x) (h : tDcA wi g tt tk tv (own.map (·.2)) σ H Q)
    (hRR : ∀ D C s' m H', Inv X pins σ H' s' → Q (.ref D) H' → s'.heap.Ns C m → FpOk X pins H' C → compPost (model X.prog X.w) X.A X.xe use Qf (.ref D) C (.ok .next) s') :
    wpAny (model X.prog X.w) X.A (comprehension (.DictComp kx vx [⟨tg, iter, ifs, 0⟩] scope pos) scope X.env pos' newDict false (eval iter X.env) use) Qf X.xe s := by
  refine wpAny_comprehension_free (use := use) rfl hs (closure_ok fun y hy e => (ok.free y hy e).elim (fun k => I.ok.has _ (.inl k)) fun k => I.ok.has _ (.inr k)) ok.kind (fun y hy e => by rw [ok.uniq y hy, e])
    (thn (hi.run pins s σ H _ I h) fun xv s1 hx => thn hx fun itv s2 ⟨it, fp, tn, J, H2, e, I2, T, st2, f2, q⟩ => ?_)
  subst e
  refine wpAny_newObj_type (newEnv_comp ?_)
  generalize hD : s2.heap.objs.size = D
  obtain ⟨W, ⟨m0, w0⟩, turn⟩ := q D (I2.hok.fresh (Nat.le_of_eq hD))
  generalize hs3 : ({ s2 with heap := s2.heap.push { cls := .type "dict", data := .dict #[] } } : Shared) = s3
  have h3 : s3.heap = s2.heap.push { cls := .type "dict", data := .dict #[] } := by rw [← hs3]
  have I3 : Inv X pins σ (upd H2 D (.dK [])) s3 := by
    rw [← hs3]
    refine I2.laid (t' := s2.toks) (fun b o e => Heap.get?_push_of_some _ e) (Nat.le_of_eq hD) ?_
    rw [← hD]
    exact dk_empty s2.heap I2.big
  have f3 : ∀ b ∈ fp, FpOk X pins (upd H2 D (.dK [])) b ∧ b < s3.heap.objs.size := fun b hb => by
    obtain ⟨o, e, _⟩ := T.obj _ _ st2 b hb
    have hlt := Heap.lt_size e
    refine ⟨⟨?_, (f2 b hb).2⟩, by rw [h3, Heap.size_push]; exact Nat.lt_succ_of_lt hlt⟩
    rw [upd_ne (by rw [← hD]; exact Nat.ne_of_lt hlt)]
    exact (f2 b hb).1
  have st3 : tn 0 s3.heap := T.keep _ _ _ st2 fun b _ o e => by rw [h3]; exact Heap.get?_push_of_some _ e
  have I4 := block_start I3 ok hN f3
  have pg := hg s3 (upd H2 D (.dK [])) s3.heap.objs.size (cellsFrom (s3.heap.objs.size + 1) scope.names (cloFrom X.env.cells scope.names [])) fp
  have pt := ht s3 (upd H2 D (.dK [])) s3.heap.objs.size (cellsFrom (s3.heap.objs.size + 1) scope.names (cloFrom X.env.cells scope.names [])) fp
  have pk := hk s3 (upd H2 D (.dK [])) s3.heap.objs.size (cellsFrom (s3.heap.objs.size + 1) scope.names (cloFrom X.env.cells scope.names [])) fp
  have pv := hv s3 (upd H2 D (.dK [])) s3.heap.objs.size (cellsFrom (s3.heap.objs.size + 1) scope.names (cloFrom X.env.cells scope.names [])) fp
  show codeAny _ _ (.compStart (.DictComp kx vx [⟨tg, iter, ifs, 0⟩] scope pos) 0 (.ref it) (.ref D) (compEnvC scope (cellsFrom (s3.heap.objs.size + 1) scope.names (cloFrom X.env.cells scope.names [])) s3.heap.objs.size X.env)) (compPost (model X.prog X.w) X.A X.xe use Qf (.ref D) s3.heap.objs.size) { s3 with heap := pushCells (s3.heap.push { cls := .type "dict", data := .dict #[] }) scope.names }
  generalize hce : compEnvC scope (cellsFrom (s3.heap.objs.size + 1) scope.names (cloFrom X.env.cells scope.names [])) s3.heap.objs.size X.env = ce at I4 pg pt pk pv ⊢
  have cL : ce.locals = s3.heap.objs.size := by subst hce; rfl
  generalize hs4 : ({ s3 with heap := pushCells (s3.heap.push { cls := .type "dict", data := .dict #[] }) scope.names } : Shared) = s4 at I4 ⊢
  have st4 : tn 0 s4.heap := T.keep _ _ _ st3 fun b _ o e => by rw [← hs4]; exact pushCells_keeps _ _ _ _ (Heap.get?_push_of_some _ e)
  have loop : codeAny (model X.prog X.w) X.A (.compLoop (.DictComp kx vx [⟨tg, iter, ifs, 0⟩] scope pos) 0 (.ref it) (.ref D) ce) (compPost (model X.prog X.w) X.A X.xe use Qf (.ref D) s3.heap.objs.size) s4 := by
    refine dcA_loop hu hc rfl T pg pt pk pv I4 st4 (fun b hb => (f3 b hb).1.1) w0 turn fun H5 s6 I6 qq => ?_
    have I7 : Inv X pins σ H5 s6 := I3.call' (ch := fp) I6.os I6.base I6.hok I6.bare fun b hb => ⟨(f3 b hb).1.2.2.2.1, (f3 b hb).1.2.1, (f3 b hb).1.2.2.2.2.1, (f3 b hb).1.2.2.2.2.2⟩
    have nC : H5 s3.heap.objs.size = none := by
      have z : H5 ce.locals = none := I6.free
      rw [cL] at z
      exact z
    obtain ⟨m, hn, _⟩ := I6.loc
    have hn : s6.heap.Ns ce.locals m := hn
    rw [cL] at hn
    exact hRR D s3.heap.objs.size s6 m H5 I7 qq hn (I3.fpOk (Nat.le_refl _) nC)
  exact codeAny_compStart_dict loop (T.self X.A 0 _ _ _ st4 loop)
theorem pe_dcA {kx vx tg iter : Expr} {ifs : List Expr} {scope : Scope} {own : List (Str × Nat)} {pos : Pos} {wi : TI} {g : TG} {tt : TT} {tk tv : TE} (hu : X.A.units + 1 < cLine) (hc : X.calm = true) (hN : X.N.Nodup) (hi : PI X tg iter wi) (ok : BlkOk X.N X.env.scope scope own)
    (hg : ∀ (s : Shared) (H : Hp) (C : Addr) (cl : List (Str × Addr)) (fp : List Addr), PG (X.blk s H scope (compEnvC scope cl C X.env) fp) tg g) (ht : ∀ (s : Shared) (H : Hp) (C : Addr) (cl : List (Str × Addr)) (fp : List Addr), PTs (X.blk s H scope (compEnvC scope cl C X.env) fp) ifs tt)
    (hk : ∀ (s : Shared) (H : Hp) (C : Addr) (cl : List (Str × Addr)) (fp : List Addr), PE (X.blk s H scope (compEnvC scope cl C X.env) fp) kx tk) (hv : ∀ (s : Shared) (H : Hp) (C : Addr) (cl : List (Str × Addr)) (fp : List Addr), PE (X.blk s H scope (compEnvC scope cl C X.env) fp) vx tv)
    (hs : ∀ x, foldedSetIterable iter X.env x = pure x) : PE X (.DictComp kx vx [⟨tg, iter, ifs, 0⟩] scope pos) (tDcA wi g tt tk tv (own.map (·.2))) := by
  refine ⟨fun pins s σ H Q I h => ?_⟩
  rw [arm_eval_DictComp]
  refine dcA_core hu hc hN I hi ok hg ht hk hv hs h fun D C s' m H' I' q hn f => ⟨m, hn, fun h'' sb => ?_⟩
  obtain ⟨f0, f1, f2, f3, f4, f5⟩ := f
  exact ⟨.ref D, H', I'.turned (t' := s'.toks) (fun b o hb e => (sb.2 b hb).trans e) f0 f1 f3 f4 f5, rfl, q⟩
end
end Rf
/-! Rf35: what the evaluator says of a dict comprehension. -/
namespace Rf
open PySem PySem.Spec PyProof.Rows L2 PySem.W
section
variable {X : Cx} {T : List Addr} {cl : Calls} {pos spos py : Pos}
theorem ev_dcomp_inv {k v it : E} {own : List Nat} {t : Rf.T} {fs : List E} {env : Env} {st st' : St} {w : W} (h : ev cl (.dcomp k v own t it fs) env st = some (w, st')) :
    ∃ ds ks vs, st = [] ∧ evF cl it env [] = some (.seq ds, []) ∧ lenOk ds = true ∧ dcompL (ev cl k) (ev cl v) (tests (evT cl fs)) t (wipeE env own) ds [] [] = some (ks, vs) ∧ w = .ref 0 ∧ st' = [.dct ks vs] := by
  simp only [ev] at h
  split at h
  · split at h
    · rename_i ds h1
      split at h
      · rename_i ks vs h2
        cases h
        have h3 : ∃ ds', evF cl it env [] = some (.seq ds', []) ∧ lenOk ds' = true ∧ ds' = ds := by
          unfold seqOnly at h1
          split at h1
          · rename_i ds' h4
            cases hl : lenOk ds' with
            | false => rw [hl] at h1; cases h1
            | true => rw [hl] at h1; cases h1; exact ⟨ds, h4, hl, rfl⟩
          · cases h1
        obtain ⟨ds', h4, h5, rfl⟩ := h3
        exact ⟨ds', ks, vs, rfl, h4, h5, h2, rfl, rfl⟩
      · cases h
    · cases h
  · cases h
theorem RT.dmove {F F' H H' : Hp} {ks ws : List D} {p : Addr} (h : RT F H (.dct ks ws) (.ref p)) (l : Le F F') (m : ∀ o, H p = some o → H' p = some o) : RT F' H' (.dct ks ws) (.ref p) := by
  obtain ⟨a, vs, e, h1, h2⟩ := h
  cases e
  refine ⟨p, vs, rfl, h1.le l, ?_⟩
  rcases h2 with ⟨kvs, h3, h4⟩ | ⟨kvs, hn, h3, h4⟩
  · exact .inl ⟨kvs, m _ h3, h4⟩
  · exact .inr ⟨kvs, hn, m _ h3, h4⟩
theorem RT.dsome {F H : Hp} {ks ws : List D} {p : Addr} (h : RT F H (.dct ks ws) (.ref p)) : ∃ o, H p = some o ∧ NT o := by
  obtain ⟨a, vs, e, h1, h2⟩ := h
  cases e
  rcases h2 with ⟨kvs, h3, h4⟩ | ⟨kvs, hn, h3, h4⟩
  · exact ⟨_, h3, nt_dK⟩
  · exact ⟨_, h3, nt_dT⟩
theorem putK_ne {κ : Type} [DecidableEq κ] (kvs : List (κ × V)) (k : κ) (v : V) : putK kvs k v ≠ [] := by
  unfold putK
  split
  · rename_i h
    intro z
    have : kvs = [] := by simpa using z
    subst this
    simp at h
  · simp
theorem putD_len {k v : D} {ks vs ks' vs' : List D} (e : putD k v ks vs = (ks', vs')) : ks'.length ≤ ks.length + 1 := by
  unfold putD at e
  cases h : hasD k ks with
  | true => rw [h] at e; cases e; omega
  | false => rw [h] at e; cases e; simp
theorem dc_step {k v it : E} {own : List Nat} {t : Rf.T} {fs : List E} {σ : L2.St} {H : Hp} {Q : VK} (ht : tgIn own t = true) (h : tEv T (ev cl (.dcomp k v own t it fs)) σ H Q) :
    tDcA (tIv T (evF cl it)) (tTg T t) (tTs T (tests (evT cl fs))) (tEv T (ev cl k)) (tEv T (ev cl v)) own σ H Q := by
  obtain ⟨F, ρ, env, st, w, st', r, hE, e1, fin⟩ := h
  obtain ⟨ds, rk, rv, rfl, h1, hl, h2, rfl, rfl⟩ := ev_dcomp_inv e1
  have e0 := nil_of r
  subst e0
  have hm : ds.length < sizeLine := by
    have g1 := lenOk_le hl
    have g2 : MAXL < sizeLine := by rw [sizeLine_eq]; decide
    omega
  refine ⟨F, [], env, [], .seq ds, [], r, hE, h1, fun F1 ρ1 H1 J s1 r1 hJ D hD => ?_⟩
  have e1 := nil_of r1
  subst e1
  obtain ⟨fD, TD, _⟩ := r1.none_of hD
  refine ⟨fun i m Hi => ∃ F2 ks ws, Step T F1 [] H1 F2 [] Hi ∧ Rl T F2 [] [] Hi ∧ RT F2 Hi (.dct ks ws) (.ref D) ∧ F2 D = none ∧ dcompL (ev cl k) (ev cl v) (tests (evT cl fs)) t (wipeE env own) (ds.drop i) ks ws = some (rk, rv) ∧ m = ds.length - i ∧ ks.length ≤ i ∧ i ≤ ds.length,
    ⟨ds.length, F1, [], [], Step.refl.over hD, r1.other fD TD (by simp), ⟨D, [], rfl, rfl, .inl ⟨[], upd_same, rfl, rfl⟩⟩, fD, by simpa using h2, by simp, by simp, by simp⟩, ?_⟩
  rintro i m Hi ⟨F2, ks, ws, s2, r2, hd, f2, hc, em, hvi, hi⟩
  have J1 := hJ i F2 [] [] Hi s2.le ⟨[], rfl⟩ r2
  obtain ⟨oD, hDi, ntD⟩ := hd.dsome
  by_cases hlt : i < ds.length
  · have hx : nth ds i = some ds[i] := by rw [nth_eq]; exact List.getElem?_eq_getElem hlt
    simp only [nxt, hx] at J1
    have hdr : ds.drop i = ds[i] :: ds.drop (i + 1) := List.drop_eq_getElem_cons hlt
    rw [hdr] at hc
    simp only [dcompL] at hc
    refine .inr ⟨J1.1, fun H' => ∃ F3 ks3 ws3, Step T F1 [] H1 F3 [] H' ∧ Rl T F3 [] [] H' ∧ RT F3 H' (.dct ks3 ws3) (.ref D) ∧ F3 D = none ∧ dcompL (ev cl k) (ev cl v) (tests (evT cl fs)) t (wipeE env own) (ds.drop (i + 1)) ks3 ws3 = some (rk, rv) ∧ ks3.length ≤ i + 1, ?_, ?_⟩
    · rintro H' ⟨F3, ks3, ws3, q1, q2, q3, q4, q5, q6⟩
      exact ⟨ds.length - (i + 1), by omega, F3, ks3, ws3, q1, q2, q3, q4, q5, rfl, q6, hlt⟩
    · intro x H2 hy
      obtain ⟨F3, s3, r3, hx3⟩ := J1.2 x H2 hy
      have S3 := s2.trans s3
      have hD3 : H2 D = some oD := s3.pres D _ hDi TD (by simp)
      have f3 := s3.keepN hDi f2
      have d3 : RT F3 H2 (.dct ks ws) (.ref D) := hd.dmove s3.le fun o e => s3.pres D o e TD (by simp)
      split at hc
      · cases hc
      · rename_i env2 h3
        refine ⟨F3, [], wipeE env own, [], ds[i], env2, r3, ((RE.wipe hE own).step s1).step S3, hx3, h3, fun σ2 hE2 ow => ⟨(ow own ht).trans (wipe_sub fun _ h => h), ?_⟩⟩
        split at hc
        · cases hc
        · rename_i h4
          refine ⟨F3, env2, false, r3, hE2, h4, fun F4 H4 s4 r4 => ?_⟩
          show if false = true then _ else _
          rw [if_neg (by decide)]
          exact ⟨F4, ks, ws, S3.trans s4, r4, d3.dmove s4.le fun o e => s4.pres D o e TD (by simp), s4.keepN hD3 f3, hc, by omega⟩
        · rename_i h4
          refine ⟨F3, env2, true, r3, hE2, h4, fun F4 H4 s4 r4 => ?_⟩
          show if true = true then _ else _
          rw [if_pos rfl]
          have hD4 : H4 D = some oD := s4.pres D _ hD3 TD (by simp)
          have f4 := s4.keepN hD3 f3
          have d4 : RT F4 H4 (.dct ks ws) (.ref D) := d3.dmove s4.le fun o e => s4.pres D o e TD (by simp)
          split at hc
          · rename_i kd hk5
            split at hc
            · rename_i vd hv5
              split at hc
              · rename_i hok
                obtain ⟨w5, st5, st6, h7, h8⟩ := dat_inv hk5
                refine ⟨F4, [], env2, [], w5, st5, r4, hE2.step s4, h7, fun F5 ρ5 H5 y s5 r5 w6 => ?_⟩
                obtain ⟨F6, s6, r6, w7⟩ := freeze_ok r5 w6 h8
                have S6 : Step T F4 [] H4 F6 [] H5 := (s5.trans s6).drop
                have hD5 : H5 D = some oD := S6.pres D _ hD4 TD (by simp)
                have f6 := S6.keepN hD4 f4
                have d6 : RT F6 H5 (.dct ks ws) (.ref D) := d4.dmove S6.le fun o e => S6.pres D o e TD (by simp)
                obtain ⟨w8, st8, st9, h9, h10⟩ := dat_inv hv5
                refine ⟨F6, [], env2, [], w8, st8, r6.none_, (hE2.step s4).step S6, h9, fun F7 ρ7 H7 z s7 r7 w9 => ?_⟩
                obtain ⟨F8, s8, r8, w10⟩ := freeze_ok r7 w9 h10
                have S8 : Step T F6 [] H5 F8 [] H7 := (s7.trans s8).drop
                have hD7 : H7 D = some oD := S8.pres D _ hD5 TD (by simp)
                have f8 := S8.keepN hD5 f6
                have d8 : RT F8 H7 (.dct ks ws) (.ref D) := d6.dmove S8.le fun o e => S8.pres D o e TD (by simp)
                generalize hput : putD kd vd ks ws = pp at hc
                obtain ⟨ks', ws'⟩ := pp
                obtain ⟨a, ea, κ, iD, En, kk, kvs, mkd, kS, ek, eks, hws⟩ := keys_of r8.sub d8 hok ((w7.le S8.le).le r8.sub)
                cases ea
                subst ek eks
                obtain ⟨p1, p2⟩ := putD_val En w10 hws hput
                obtain ⟨o2, ho2, hRT⟩ := kS.ho
                refine ⟨κ, iD, En, kk, kvs, mkd, kS, ?_, F8, ks', ws', ((S3.trans s4).trans (S6.trans S8)).over hD, r8.none_.other f8 TD (by simp), ?_, f8, hc, ?_⟩
                · rw [List.length_map] at hvi
                  omega
                · rw [p1]
                  exact hRT F8 _ ws' _ (putK_ne kvs kk z) upd_same p2
                · have := putD_len hput
                  omega
              · cases hc
            · cases hc
          · cases hc
  · have ei : i = ds.length := by omega
    subst ei
    have hx : nth ds ds.length = none := by rw [nth_eq]; exact List.getElem?_eq_none (Nat.le_refl _)
    simp only [nxt, hx, stopAt_self] at J1
    have hc2 : dcompL (ev cl k) (ev cl v) (tests (evT cl fs)) t (wipeE env own) [] ks ws = some (rk, rv) := by
      rw [List.drop_length] at hc
      exact hc
    cases hc2
    have S := s1.trans s2
    have hHD : H D = none := s1.back hD
    have ra : Rl T F2 ([] ++ [D]) ([] ++ [.dct rk rv]) Hi := r2.add hDi ntD TD (by simp) ⟨f2, hd⟩
    refine .inl ⟨J1, fin F2 [D] Hi _ ⟨S.le, S.new, ⟨[D], rfl, fun a z => ?_⟩, S.pres, S.dom⟩ ra ⟨D, rfl, rfl⟩⟩
    have e : a = D := by simpa using z
    rw [e]; exact hHD
end
end Rf
/-! Rf36: dict comprehensions as expressions and as assignments on one line. -/
namespace Rf
open PySem PySem.Spec PyProof.Rows L2 PySem.W
section
variable {X : Cx} {T : List Addr} {cl : Calls} {pos spos py : Pos}
theorem pv_dc {kx vx tg iter : Expr} {ifs : List Expr} {scope : Scope} {own : List (Str × Nat)} {k' v' it' : E} {t : Rf.T} {fs : List E} (hu : X.A.units + 1 < cLine) (hc : X.calm = true) (hN : X.N.Nodup) (hpl : plainE iter = true) (hi : PI X tg iter (tIv T (evF cl it'))) (ok : BlkOk X.N X.env.scope scope own) (ht : tgIn (own.map (·.2)) t = true)
    (hg : ∀ (s : Shared) (H : Hp) (C : Addr) (cl : List (Str × Addr)) (fp : List Addr), PG (X.blk s H scope (compEnvC scope cl C X.env) fp) tg (tTg T t)) (hts : ∀ (s : Shared) (H : Hp) (C : Addr) (cl' : List (Str × Addr)) (fp : List Addr), PTs (X.blk s H scope (compEnvC scope cl' C X.env) fp) ifs (tTs T (tests (evT cl fs))))
    (hk : ∀ (s : Shared) (H : Hp) (C : Addr) (cl' : List (Str × Addr)) (fp : List Addr), PE (X.blk s H scope (compEnvC scope cl' C X.env) fp) kx (tEv T (ev cl k'))) (hv : ∀ (s : Shared) (H : Hp) (C : Addr) (cl' : List (Str × Addr)) (fp : List Addr), PE (X.blk s H scope (compEnvC scope cl' C X.env) fp) vx (tEv T (ev cl v'))) :
    PE X (.DictComp kx vx [⟨tg, iter, ifs, 0⟩] scope pos) (tEv T (ev cl (.dcomp k' v' (own.map (·.2)) t it' fs))) :=
  (pe_dcA hu hc hN hi ok hg hts hk hv (fun x => by cases iter <;> first | rfl | cases hpl)).mono fun σ H Q h => dc_step ht h
/-- name = {..} on one line, the name a local -/
theorem ps_setDcA {i : Nat} {y : Str} {kx vx tg iter : Expr} {ifs : List Expr} {scope : Scope} {own : List (Str × Nat)} {wi : TI} {g : TG} {tt : TT} {tk tv : TE} (hu : X.A.units + 1 < cLine) (hc : X.calm = true) (hN : X.N.Nodup) (hy : X.N[i]? = some y) (hyl : X.env.scope.names.lookup y = some .local)
    (hsw : swapsWith (.DictComp kx vx [⟨tg, iter, ifs, 0⟩] scope pos) (some (.Name y py)) spos.line X.env = pure true) (hi : PI X tg iter wi) (ok : BlkOk X.N X.env.scope scope own)
    (hg : ∀ (s : Shared) (H : Hp) (C : Addr) (cl : List (Str × Addr)) (fp : List Addr), PG (X.blk s H scope (compEnvC scope cl C X.env) fp) tg g) (ht : ∀ (s : Shared) (H : Hp) (C : Addr) (cl : List (Str × Addr)) (fp : List Addr), PTs (X.blk s H scope (compEnvC scope cl C X.env) fp) ifs tt)
    (hk : ∀ (s : Shared) (H : Hp) (C : Addr) (cl : List (Str × Addr)) (fp : List Addr), PE (X.blk s H scope (compEnvC scope cl C X.env) fp) kx tk) (hv : ∀ (s : Shared) (H : Hp) (C : Addr) (cl : List (Str × Addr)) (fp : List Addr), PE (X.blk s H scope (compEnvC scope cl C X.env) fp) vx tv)
    (hs : ∀ x, foldedSetIterable iter X.env x = pure x) :
    PS X (.Assign [.Name y py] (.DictComp kx vx [⟨tg, iter, ifs, 0⟩] scope pos) spos) (tAsg (tDcA wi g tt tk tv (own.map (·.2))) (gName i)) := by
  refine ⟨fun pins s σ H D I h => ?_⟩
  rw [exec_Assign_Name_used _ _ _ _ hsw]
  refine wpAny_bind (wpAny_standAt (wpAny_bind ?_))
  show wpAny _ X.A (do let _ ← comprehension (.DictComp kx vx [⟨tg, iter, ifs, 0⟩] scope pos) scope X.env (firstIterPos [⟨tg, iter, ifs, 0⟩] pos) newDict false (eval iter X.env) (some (assign (.Name y py) X.env))) _ _ s
  have h : tDcA wi g tt tk tv (own.map (·.2)) σ H (fun x H1 => gName i x σ H1 D.nx) := h
  refine wpAny_bind (thn (dcA_core (Qf := fun _ s' => SP X pins D .next s') hu hc hN I hi ok hg ht hk hv hs h fun L C s' m H' I' q hn f => ?_) fun _ s' hq => wpAny_pure (wpAny_pure hq))
  show wpAny _ _ (assign (.Name y py) X.env (.ref L)) _ _ _
  refine wpAny_assign_Name (store_ok2 (v := V.ref L) I' hN hy (.inl hyl) rfl (fun s2 I2 ⟨a, sb, ha⟩ => ?_) (.inr hyl))
  obtain ⟨f0, f1, f2, f3, f4, f5⟩ := f
  have hCa : C ≠ a := by
    rcases ha with z | z
    · rw [z]; exact f1
    · exact fun e => f4 y a z e.symm
  exact ⟨m, hn.sameBut sb hCa, fun h3 sb3 => ⟨_, H', I2.turned (t' := s2.toks) (fun b o hb e => (sb3.2 b hb).trans e) f0 f1 f3 f4 f5, q⟩⟩
theorem ps_dc {i : Nat} {y : Str} {kx vx tg iter : Expr} {ifs : List Expr} {scope : Scope} {own : List (Str × Nat)} {k' v' it' : E} {t : Rf.T} {fs : List E} {md box : Bool} (hu : X.A.units + 1 < cLine) (hc : X.calm = true) (hN : X.N.Nodup) (hy : X.N[i]? = some y) (hyl : X.env.scope.names.lookup y = some .local)
    (hsw : swapsWith (.DictComp kx vx [⟨tg, iter, ifs, 0⟩] scope pos) (some (.Name y py)) spos.line X.env = pure true) (hpl : plainE iter = true) (hi : PI X tg iter (tIv T (evF cl it'))) (ok : BlkOk X.N X.env.scope scope own) (ht : tgIn (own.map (·.2)) t = true)
    (hg : ∀ (s : Shared) (H : Hp) (C : Addr) (cl : List (Str × Addr)) (fp : List Addr), PG (X.blk s H scope (compEnvC scope cl C X.env) fp) tg (tTg T t)) (hts : ∀ (s : Shared) (H : Hp) (C : Addr) (cl' : List (Str × Addr)) (fp : List Addr), PTs (X.blk s H scope (compEnvC scope cl' C X.env) fp) ifs (tTs T (tests (evT cl fs))))
    (hk : ∀ (s : Shared) (H : Hp) (C : Addr) (cl' : List (Str × Addr)) (fp : List Addr), PE (X.blk s H scope (compEnvC scope cl' C X.env) fp) kx (tEv T (ev cl k'))) (hv : ∀ (s : Shared) (H : Hp) (C : Addr) (cl' : List (Str × Addr)) (fp : List Addr), PE (X.blk s H scope (compEnvC scope cl' C X.env) fp) vx (tEv T (ev cl v'))) :
    PS X (.Assign [.Name y py] (.DictComp kx vx [⟨tg, iter, ifs, 0⟩] scope pos) spos) (tSx T (ex cl (.asg (.nm i) (.pur md box (.dcomp k' v' (own.map (·.2)) t it' fs))))) :=
  (ps_setDcA hu hc hN hy hyl hsw hi ok hg hts hk hv (fun x => by cases iter <;> first | rfl | cases hpl)).mono fun D σ H h => dc_step ht (pur_step (asg_step h))
end
end Rf
/-! Rf37: all and any over an iterator, by a measure. -/
namespace Rf
open PySem PySem.Spec PyProof.Rows L2 PySem.W
/-- what a turn of all (stop = false) or any (stop = true) may find -/
def Found (stop : Bool) (W : Nat → Shared → Prop) (Q : Value → Shared → Prop) (m : Nat) : Option Value → Shared → Prop
  | none, s => Q (.bool (!stop)) s
  | some v, s => ∃ b, v = .bool b ∧ ((b = stop ∧ Q (.bool stop) s) ∨ (b = !stop ∧ ∃ m', m' < m ∧ W m' s))
section
variable {prog : Program} {w : World} {A : Around} {I : Addr} {W : Nat → Shared → Prop} {Q : Value → Shared → Prop} {R : Result → Shared → Prop}
theorem all_loop (step : ∀ m s, W m s → wpAny (model prog w) A.in1 (pyNext (.ref I)) (Found false W Q m) (fun _ _ => False) s) (hR : ∀ v s, Q v s → R (.ok (.ret v)) s) :
    ∀ (m : Nat) (s : Shared), W m s → codeAny (model prog w) A (.builtin "all.loop" ⟨[.ref I], []⟩) R s := by
  intro m
  induction m using Nat.strongRecOn with
  | ind m ih =>
    intro s hs
    refine codeAny_builtin PySem.F.entry_all_loop ?_
    rw [Around.under_plainId PySem.F.plain_all_loop _]
    show wpAny _ A.in1 (pyNext (.ref I) >>= _) _ _ s
    refine wpAny_bind (thnF (step m s hs) fun r s1 h1 => ?_)
    cases r with
    | none => exact wpAny_bind (wpAny_rule (wpAny_pure (hR _ _ h1)))
    | some v =>
      obtain ⟨b, rfl, h1⟩ := h1
      refine wpAny_bind (wpAny_holding (wpAny_truthy_bool ?_))
      refine wpAny_bind (wpAny_letGo ?_)
      rcases h1 with ⟨rfl, h1⟩ | ⟨rfl, m', hm, h1⟩
      · simp only [Bool.false_eq_true, if_false]
        exact wpAny_bind (wpAny_rule (wpAny_pure (hR _ _ h1)))
      · simp only [Bool.not_false, if_true]
        exact wpAny_pure ⟨plainId_quiet PySem.F.plain_all_loop _, ih m' hm s1 h1⟩
theorem any_loop (step : ∀ m s, W m s → wpAny (model prog w) A.in1 (pyNext (.ref I)) (Found true W Q m) (fun _ _ => False) s) (hR : ∀ v s, Q v s → R (.ok (.ret v)) s) :
    ∀ (m : Nat) (s : Shared), W m s → codeAny (model prog w) A (.builtin "any.loop" ⟨[.ref I], []⟩) R s := by
  intro m
  induction m using Nat.strongRecOn with
  | ind m ih =>
    intro s hs
    refine codeAny_builtin PySem.F.entry_any_loop ?_
    rw [Around.under_plainId PySem.F.plain_any_loop _]
    show wpAny _ A.in1 (pyNext (.ref I) >>= _) _ _ s
    refine wpAny_bind (thnF (step m s hs) fun r s1 h1 => ?_)
    cases r with
    | none => exact wpAny_bind (wpAny_rule (wpAny_pure (hR _ _ h1)))
    | some v =>
      obtain ⟨b, rfl, h1⟩ := h1
      refine wpAny_bind (wpAny_holding (wpAny_truthy_bool ?_))
      refine wpAny_bind (wpAny_letGo ?_)
      rcases h1 with ⟨rfl, h1⟩ | ⟨rfl, m', hm, h1⟩
      · simp only [if_true]
        exact wpAny_bind (wpAny_rule (wpAny_pure (hR _ _ h1)))
      · simp only [Bool.not_true, Bool.false_eq_true, if_false]
        exact wpAny_pure ⟨plainId_quiet PySem.F.plain_any_loop _, ih m' hm s1 h1⟩
/-- all(x) | any(x), x its own iterator -/
theorem call_all_of {E : Value → Shared → Prop} {s : Shared} {x : Value} (h : wpAny (model prog w) A.in1 (pyIter x) (fun it s2 => ∃ (I : Addr) (W : Nat → Shared → Prop) (m : Nat), it = .ref I ∧ W m s2 ∧ ∀ m s, W m s → wpAny (model prog w) A.in1 (pyNext (.ref I)) (Found false W Q m) (fun _ _ => False) s) E s) :
    wpAny (model prog w) A (call (.builtin "all") [x]) Q E s := by
  refine call_function_tree PySem.F.kind_all PySem.F.plain_all PySem.F.entry_all (PySem.F.args_all1 _) ?_
  unfold Builtin.«all»
  refine wpAny_bind (m := oneArg "all" _) (wpAny_pure ?_)
  refine wpAny_bind (wpAny_mono h (fun it s2 h2 => ?_) fun _ _ e => e)
  obtain ⟨I, W, m, rfl, hW, step⟩ := h2
  exact wpAny_pure ⟨plainId_quiet PySem.F.plain_all_loop _, all_loop step (fun v s q => q) m s2 hW⟩
theorem call_any_of {E : Value → Shared → Prop} {s : Shared} {x : Value} (h : wpAny (model prog w) A.in1 (pyIter x) (fun it s2 => ∃ (I : Addr) (W : Nat → Shared → Prop) (m : Nat), it = .ref I ∧ W m s2 ∧ ∀ m s, W m s → wpAny (model prog w) A.in1 (pyNext (.ref I)) (Found true W Q m) (fun _ _ => False) s) E s) :
    wpAny (model prog w) A (call (.builtin "any") [x]) Q E s := by
  refine call_function_tree PySem.F.kind_any PySem.F.plain_any PySem.F.entry_any (PySem.F.args_any1 _) ?_
  unfold Builtin.«any»
  refine wpAny_bind (m := oneArg "any" _) (wpAny_pure ?_)
  refine wpAny_bind (wpAny_mono h (fun it s2 h2 => ?_) fun _ _ e => e)
  obtain ⟨I, W, m, rfl, hW, step⟩ := h2
  exact wpAny_pure ⟨plainId_quiet PySem.F.plain_any_loop _, any_loop step (fun v s q => q) m s2 hW⟩
end
end Rf
/-! Rf38: the loop of a generator expression. -/
namespace Rf
open PySem PySem.Spec PyProof.Rows L2 PySem.W
theorem Inv.withGens {X : Cx} {pins : List (Addr × Obj)} {σ : L2.St} {H : Hp} {s : Shared} {g' : Array GenState} (I : L2.Inv X pins σ H s) (hg : AllBare g') : L2.Inv X pins σ H { s with gens := g' } :=
  ⟨I.ok, I.os, hg, I.base, I.loc, I.cell, I.free, I.freeC, I.pin, I.hok, I.len⟩
/-- what all (stop = false), any (stop = true) read of a generator expression -/
def tQu (stop : Bool) (wi : TI) (g : TG) (tt : TT) (te : TE) (vs : List Nat) : TE := fun σ H Q => wi σ H fun J H1 => ∃ W : Nat → Nat → Hp → Prop, (∃ m, W 0 m H1) ∧ ∀ i m H, W i m H →
  (J.stop i H ∧ Q (.bl (!stop)) H) ∨ (J.go i H ∧ ∃ Nx : Hp → Prop, (∀ H', Nx H' → ∃ m', m' < m ∧ W (i + 1) m' H') ∧ ∀ x H', J.yld i H x H' → g x (wipe σ vs) H' fun σ2 H2 => wipe σ2 vs = wipe σ vs ∧ tt σ2 H2 fun b H3 =>
    if b = true then te σ2 H3 fun y H4 => ∃ k, y = .bl k ∧ ((k = stop ∧ Q (.bl stop) H4) ∨ (k = !stop ∧ Nx H4)) else Nx H3)
/-- what stands at a yield -/
def QuY (Y : Cx) (gp : List (Addr × Obj)) (stop : Bool) (Q : VK) : Protocol := fun _ _ v s kap => ∃ k H', v = .bool k ∧ (∃ σ', L2.Inv Y gp σ' H' s) ∧ ((k = stop ∧ Q (.bl stop) H') ∨ (k = !stop ∧ ∀ g', AllBare g' → kap (.send .none) { s with gens := g' }))
def QuR (Y : Cx) (gp : List (Addr × Obj)) (stop : Bool) (Q : VK) : GenEnd := fun _ _ r s => r = .ok .next ∧ ∃ H' σ', L2.Inv Y gp σ' H' s ∧ Q (.bl (!stop)) H'
section
variable {Y : Cx} {A : Around}
theorem gen_seg {elt tg iter : Expr} {ifs : List Expr} {scope : Scope} {pos : Pos} {g : TG} {tt : TT} {te : TE} {σ : L2.St} {vs : List Nat} {it : Addr} {fp : List Addr} {tn : Nat → Heap → Prop} {J : It} {W : Nat → Nat → Hp → Prop} {Q : VK} {stop : Bool} {gp : List (Addr × Obj)}
    (hc : Y.calm = true) (hx : Y.xe = fun _ _ => False) (hpn : Y.pn = []) (hgp : ∀ p ∈ gp, ∀ b ∈ fp, p.1 ≠ b) (hex : Y.ex = fp) (eA : Y.A = A.over (.compLoop (.GeneratorExp elt [⟨tg, iter, ifs, 0⟩] scope pos) 0 (.ref it) .none Y.env) []) (hco : Y.env.scope.isCoroutine = false) (T : Turn Y.prog Y.w Y.K tg J fp it tn)
    (pg : PG Y tg g) (pt : PTs Y ifs tt) (pe : PE Y elt te)
    (turn : ∀ i m H, W i m H → (J.stop i H ∧ Q (.bl (!stop)) H) ∨ (J.go i H ∧ ∃ Nx : Hp → Prop, (∀ H', Nx H' → ∃ m', m' < m ∧ W (i + 1) m' H') ∧ ∀ x H', J.yld i H x H' → g x (wipe σ vs) H' fun σ2 H2 => wipe σ2 vs = wipe σ vs ∧ tt σ2 H2 fun b H3 =>
      if b = true then te σ2 H3 fun y H4 => ∃ k, y = .bl k ∧ ((k = stop ∧ Q (.bl stop) H4) ∨ (k = !stop ∧ Nx H4)) else Nx H3)) :
    ∀ (n m i : Nat) (s₀ s : Shared) (H : Hp), m < n → L2.Inv Y gp (wipe σ vs) H s → tn i s.heap → (∀ b ∈ fp, H b = none) → W i m H →
      Seg (model Y.prog Y.w) A (QuR Y gp stop Q) (QuY Y gp stop Q) n s₀ (.compLoop (.GeneratorExp elt [⟨tg, iter, ifs, 0⟩] scope pos) 0 (.ref it) .none Y.env)
        ((model Y.prog Y.w).den (.compLoop (.GeneratorExp elt [⟨tg, iter, ifs, 0⟩] scope pos) 0 (.ref it) .none Y.env)) [] s := by
  have okFp : ∀ {σ' : L2.St} {H' : Hp} {s' : Shared}, L2.Inv Y gp σ' H' s' → (∀ b ∈ fp, H' b = none) → ∀ b ∈ fp, FpOk Y gp H' b := fun {σ' H' s'} J hn b hb =>
    ⟨hn b hb, (J.ok.exf b (by rw [hex]; exact hb)).1, J.ok.exfs b (by rw [hex]; exact hb), .inl (by rw [hex]; exact hb), fun x c e => (J.ok.exf b (by rw [hex]; exact hb)).2 x c e, fun q hq => hgp q (by rw [hpn] at hq; simpa using hq) b hb⟩
  intro n m
  induction m using Nat.strongRecOn generalizing n with
  | ind m ih =>
    intro i s₀ s5 H5 hmn I5 st5 n5 w5
    show Seg _ A _ _ _ s₀ _ ((compTurn (.GeneratorExp elt [⟨tg, iter, ifs, 0⟩] scope pos) 0 (.ref it) .none Y.env).onRaise (leaving Y.env)) [] s5
    rw [compTurn_gen, Sem.onRaise_eq_wrap]
    refine seg_bind_wrap (wpAny_standAt ?_)
    rcases turn i m H5 w5 with ⟨stp, qq⟩ | ⟨go, Nx, hNx, step⟩
    · refine seg_bind_wrap ?_
      rw [← eA]
      refine thnF (T.done Y rfl rfl rfl hc i gp s5 _ H5 (fun _ _ => False) I5 (okFp I5 n5) st5 stp) fun r s6 ⟨hr, I6⟩ => ?_
      subst hr
      exact seg_end (.ok .next) ⟨rfl, H5, _, I6, qq⟩
    · refine seg_bind_wrap ?_
      rw [← eA]
      refine thnF (T.item Y rfl rfl rfl hc i gp s5 _ H5 (fun _ _ => False) I5 (okFp I5 n5) st5 go) fun r s6 ⟨u, hr, h6⟩ => ?_
      subst hr
      refine seg_bind_wrap ?_
      rw [← eA]
      refine thnF h6 fun _ s7 ⟨x, H7, I7, r7, y7, st7, n7⟩ => ?_
      have pinned := I7.pinned (okFp I7 n7) (T.obj _ _ st7)
      refine seg_bind_wrap ?_
      rw [← eA]
      have pgr := pg.run _ s7 _ H7 x u _ pinned r7 (step x H7 y7)
      rw [hx] at pgr
      refine thnF pgr fun _ s8 ⟨σ8, H8, I8, hw8, q8⟩ => ?_
      refine seg_bind_wrap ?_
      rw [← eA]
      have ptr := pt.run _ s8 σ8 H8 _ I8 q8
      rw [hx] at ptr
      refine thnF ptr fun b s9 ⟨H9, I9, q9⟩ => ?_
      have again : ∀ {s' : Shared} {H' : Hp} (n' : Nat) (s0' : Shared), n = n' ∨ n = n' + 1 → L2.Inv Y (gp ++ pinsAt fp s7.heap) σ8 H' s' → Nx H' → Seg (model Y.prog Y.w) A (QuR Y gp stop Q) (QuY Y gp stop Q) n' s0' (.compLoop (.GeneratorExp elt [⟨tg, iter, ifs, 0⟩] scope pos) 0 (.ref it) .none Y.env)
          ((model Y.prog Y.w).den (.compLoop (.GeneratorExp elt [⟨tg, iter, ifs, 0⟩] scope pos) 0 (.ref it) .none Y.env)) [] s' := fun {s' H'} n' s0' hn' J nx => by
        obtain ⟨m', hm, w'⟩ := hNx H' nx
        have stood : ∀ b ∈ fp, ∀ o, s7.heap.get? b = some o → s'.heap.get? b = some o ∧ H' b = none := fun b hb o e => by
          obtain ⟨z1, z2, _⟩ := J.pin (b, o) (List.mem_append_right _ (List.mem_append_right _ (mem_pinsAt hb e)))
          exact ⟨z1, z2⟩
        refine ih m' hm n' (i + 1) s0' s' H' (by omega) ((J.unpinned (pins := gp)).weak (by rw [← hw8, wipe_length]) (fun j v e => ?_)) (T.keep _ _ _ st7 fun b hb o e => (stood b hb o e).1) (fun b hb => ?_) w'
        · rw [← hw8] at e
          exact (wipe_some e).1
        · obtain ⟨o, e, _⟩ := T.obj _ _ st7 b hb
          exact (stood b hb o e).2
      cases b with
      | false =>
        rw [if_neg (by decide)] at q9
        simp only [Bool.false_eq_true, if_false]
        exact seg_again rfl (again n s₀ (.inl rfl) I9 q9)
      | true =>
        rw [if_pos rfl] at q9
        simp only [if_true]
        have hy : ∀ v, yieldOut Y.env v = yieldValue v := fun v => by simp only [yieldOut, hco, Bool.false_eq_true, if_false]
        simp only [hy]
        rw [Sem.bind_eq_wrap', Sem.bind_eq_wrap', Sem.wrap_wrap, Sem.wrap_wrap]
        refine seg_wrap ?_
        rw [← eA]
        have per := pe.run _ s9 σ8 H9 _ I9 q9
        rw [hx] at per
        refine thnF per fun yv s10 ⟨yy, H10, I10, r10, k, ek, q10⟩ => ?_
        subst ek
        cases (show yv = Value.bool k from r10)
        cases n with
        | zero => exact absurd hmn (Nat.not_lt_zero m)
        | succ n' =>
          refine seg_at (seg_yield rfl rfl rfl ⟨k, H10, rfl, ⟨σ8, I10.unpinned (pins := gp)⟩, ?_⟩)
          rcases q10 with ⟨rfl, q10⟩ | ⟨rfl, q10⟩
          · exact .inl ⟨rfl, q10⟩
          · exact .inr ⟨rfl, fun g' hg' => seg_again rfl (again n' _ (.inr rfl) (Inv.withGens I10 hg') q10)⟩
theorem gen_start {P : Program} {w : World} {elt tg iter : Expr} {ifs : List Expr} {scope : Scope} {pos : Pos} {cenv : PySem.Env} {it : Addr} {s₀ s : Shared} {R : GenEnd} {Yp : Protocol} {n : Nat}
    (self : ∀ (A : Around) (Q : Value → Shared → Prop) (E : Value → Shared → Prop), Q (.ref it) s → wpAny (model P w) A (pyIter (.ref it)) Q E s)
    (loop : Seg (model P w) A R Yp n s₀ (.compLoop (.GeneratorExp elt [⟨tg, iter, ifs, 0⟩] scope pos) 0 (.ref it) .none cenv) ((model P w).den (.compLoop (.GeneratorExp elt [⟨tg, iter, ifs, 0⟩] scope pos) 0 (.ref it) .none cenv)) [] s) :
    Seg (model P w) A R Yp n s₀ (.compStart (.GeneratorExp elt [⟨tg, iter, ifs, 0⟩] scope pos) 0 (.ref it) .none cenv) ((model P w).den (.compStart (.GeneratorExp elt [⟨tg, iter, ifs, 0⟩] scope pos) 0 (.ref it) .none cenv)) [] s := by
  show Seg _ A _ _ _ s₀ _ ((compStart (.GeneratorExp elt [⟨tg, iter, ifs, 0⟩] scope pos) 0 (.ref it) .none cenv).onRaise (leaving cenv)) [] s
  unfold compStart
  rw [Sem.onRaise_eq_wrap]
  show Seg _ A _ _ _ s₀ _ ((ask >>= _).wrap _ _ _ _) [] s
  refine seg_bind_wrap (wpAny_askSetting ?_)
  split
  · exact seg_again rfl loop
  · first
      | exact seg_bind_wrap (wpAny_rule (seg_bind_wrap (wpAny_standAt (seg_bind_wrap (self _ _ _ (seg_again rfl loop))))))
      | (refine seg_bind_wrap (wpAny_rule ?_); show Seg _ A _ _ _ s₀ _ ((standAt iter.pos >>= _).wrap _ _ _ _) [] s; exact seg_bind_wrap (wpAny_standAt (seg_bind_wrap (self _ _ _ (seg_again rfl loop)))))
end
end Rf
/-! Rf39: the turns of all and any over a generator expression. -/
namespace Rf
open PySem PySem.Spec PyProof.Rows L2 PySem.W GenW
section
variable {P : Program} {w : World} {A : Around} {Y : Cx} {gp : List (Addr × Obj)} {stop : Bool} {Q : VK} {a : Addr} {g : Nat} {og : Obj} {Qf : Value → Shared → Prop}
/-- the generator stands ready -/
def GnW (P : Program) (w : World) (A : Around) (a : Addr) (g : Nat) (Y : Cx) (gp : List (Addr × Obj)) (stop : Bool) (Q : VK) (m : Nat) (s : Shared) : Prop :=
  s.heap.IsGen a g ∧ s.heap.NoLimit ∧ ∃ gs, s.gens[g]? = some gs ∧ gs.Goes (model P w) A.in1 (QuR Y gp stop Q) (QuY Y gp stop Q) m (.send .none) (s.setGen g .running)
theorem quant_step (hh : A.handled = none) (hd : A.depth < recursionLimit) (hgen : ∀ h : Heap, h.get? a = some og → h.IsGen a g) (hag : (a, og) ∈ gp)
    (out : ∀ (s1 : Shared) (k : Bool) (H' : Hp) (σ' : L2.St), L2.Inv Y gp σ' H' s1 → Q (.bl k) H' → ∀ (x : GenState) (h' : Heap), x.bare = true → (∀ b o, s1.heap.get? b = some o → h'.get? b = some o) → Qf (.bool k) { s1.setGen g x with heap := h' })
    (m : Nat) (s : Shared) (hW : GnW P w A a g Y gp stop Q m s) : wpAny (model P w) A (pyNext (.ref a)) (Found stop (GnW P w A a g Y gp stop Q) Qf m) (fun _ _ => False) s := by
  obtain ⟨hg, hl, gs, hgs, hgo⟩ := hW
  have hgl : g < s.gens.size := (Array.getElem?_eq_some_iff.mp hgs).1
  refine wpAny_gsz (n := g + 1) hgl (wpAny_pyNext_genexpQ (P := fun _ _ s1 => ∃ H' σ', L2.Inv Y gp σ' H' s1 ∧ Q (.bl (!stop)) H') (Y := QuY Y gp stop Q) hh hl hd hg hgs hgo (fun v s1 gs' hbare hv => ?_) fun s1 hp h' hk => ?_)
  · intro hsz
    obtain ⟨k, H', rfl, ⟨σ', I⟩, hk⟩ := hv
    have hsz1 : g < s1.gens.size := by
      have q : (s1.setGen g gs').gens.size = s1.gens.size := setGen_size _ _ _
      have hsz' : g + 1 ≤ (s1.setGen g gs').gens.size := hsz
      omega
    refine ⟨k, rfl, ?_⟩
    rcases hk with ⟨rfl, q⟩ | ⟨rfl, hk⟩
    · exact .inl ⟨rfl, out s1 k H' σ' I q gs' s1.heap hbare fun _ _ e => e⟩
    · refine .inr ⟨rfl, ?_⟩
      cases m with
      | zero => exact (hk s1.gens I.bare).elim
      | succ m =>
        have hb2 : AllBare ((s1.setGen g gs').setGen g .running).gens := allBare_setGen (allBare_setGen I.bare hbare) rfl
        exact ⟨m, Nat.lt_succ_self m, hgen _ (I.pin (a, og) (List.mem_append_right _ hag)).1, I.nolimit, gs', setGen_at hsz1, hk _ hb2⟩
  · intro _
    obtain ⟨H', σ', I, q⟩ := hp
    exact out s1 (!stop) H' σ' I q .finished h' rfl hk
end
end Rf
/-! Rf40: the frame of a generator expression. -/
namespace Rf
open PySem PySem.Spec PyProof.Rows L2 PySem.W
/-- the context of a generator expression's frame -/
abbrev gnCx (X : Cx) (A : Around) (s : Shared) (H : Hp) (cenv : PySem.Env) (fp : List Addr) : Cx := { X with A := A, s_0 := s, H_0 := H, env := cenv, outer := X.stack, stack := cenv :: X.stack, ex := fp, fn := fun _ => false, pn := [], xe := fun _ _ => False }
section
variable {X : Cx} {pins : List (Addr × Obj)} {σ : L2.St} {H : Hp} {s : Shared}
theorem gen_block {A : Around} {scope : Scope} {own : List (Str × Nat)} {fp : List Addr} {cenv : PySem.Env} {h' : Heap} {m0 : Str → Option Value} {g' : Array GenState} {t' : Nat} (I : Inv X pins σ H s) (ok : BlkOk X.N X.env.scope scope own) (hN : X.N.Nodup) (hfp : ∀ b ∈ fp, FpOk X pins H b ∧ b < s.heap.objs.size)
    (nocell : ∀ y ∈ scope.names, y.2 ≠ .cell) (e1 : cenv.scope = scope) (e2 : cenv.locals = s.heap.objs.size) (e3 : cenv.globals = mainGlobals) (e4 : cenv.cells = cloFrom X.env.cells scope.names []) (e5 : cenv.frame = some cenv.locals) (e6 : cenv.builtins = builtinsNs)
    (hA : X.calm = true → A.handled = none) (hF : A.frames = some (cenv :: X.stack)) (hn : h'.Ns s.heap.objs.size m0) (kp : ∀ b o, s.heap.get? b = some o → h'.get? b = some o) (hg : AllBare g') :
    Inv (gnCx X A s H cenv fp) [] (wipe σ (own.map (·.2))) H { s with heap := h', gens := g', toks := t' } := by
  have hfree : ∀ y ∈ scope.names, y.2 = .free → ∃ c, X.env.cells.lookup y.1 = some c := fun y hy e => by
    rcases ok.free y hy e with k | k
    · exact I.ok.has _ (.inl k)
    · exact I.ok.has _ (.inr k)
  have cm : ∀ {y c}, cenv.cells.lookup y = some c → X.env.cells.lookup y = some c ∧ c < s.heap.objs.size := fun {y c} e => by
    rw [e4] at e
    rcases cloFrom_mem (PySem.mem_of_lookup e) with hm | ⟨h1, rfl⟩
    · cases hm
    · obtain ⟨c, hc⟩ := hfree _ h1 rfl
      rw [hc]
      obtain ⟨w, z⟩ := I.cell _ _ hc
      exact ⟨rfl, z.lt⟩
  have look : ∀ {y}, scope.names.lookup y = some .free → ∃ c, cenv.cells.lookup y = some c ∧ X.env.cells.lookup y = some c := fun {y} hl => by
    have hy : (y, NameKind.free) ∈ scope.names := PySem.mem_of_lookup hl
    obtain ⟨c', e'⟩ := mem_lookup (cloFrom_has (cells := X.env.cells) (acc := []) hy)
    rw [← e4] at e'
    exact ⟨c', e', (cm e').1⟩
  have okB : (gnCx X A s H cenv fp).Ok := by
    refine ⟨I.ok.mod, by show cenv.scope.kind = _; rw [e1]; exact ok.kind, e3, e6, by show s.heap.objs.size ≤ cenv.locals; rw [e2]; exact Nat.le_refl _,
      fun y z c a b => ?_, fun y hy => ?_, fun y c z e => ?_, hA, hF, .inr ⟨rfl, e5⟩, fun b hb => ⟨?_, fun y c e z => ?_⟩, I.bs, Nat.le_trans I.ok.bsz I.sz, fun b o e hb => ?_, fun b hb z => ?_, I.stack, I.stkFree⟩
    · exact I.ok.inj y z c (cm a).1 (cm b).1
    · show ∃ c, cenv.cells.lookup y = some c
      have key : ∀ k, scope.names.lookup y = some k → (k = .cell ∨ k = .free) → ∃ c, cenv.cells.lookup y = some c := fun k hk hk' => by
        rcases hk' with rfl | rfl
        · exact absurd rfl (nocell _ (PySem.mem_of_lookup hk))
        · obtain ⟨c, h1, _⟩ := look hk
          exact ⟨c, h1⟩
      have hy : cenv.scope.names.lookup y = some .cell ∨ cenv.scope.names.lookup y = some .free := hy
      rw [e1] at hy
      rcases hy with hy | hy
      · exact key _ hy (.inl rfl)
      · exact key _ hy (.inr rfl)
    · exact absurd z (by simp)
    · show b ≠ cenv.locals
      rw [e2]; exact Nat.ne_of_lt (hfp b hb).2
    · exact (hfp b hb).1.2.2.2.2.1 y c (cm e).1 z
    · rcases (hfp b hb).1.2.2.2.1 with z | z
      · exact I.ok.noex b o e z
      · exact absurd (Nat.lt_of_lt_of_le (Heap.lt_size e) (Nat.le_trans I.ok.bsz z)) (Nat.lt_irrefl _)
    · rcases List.mem_cons.mp (I.stkSub b z) with z | z
      · exact (hfp b hb).1.2.1 z
      · exact (hfp b hb).1.2.2.1 z
  refine ⟨okB, rfl, hg, Un.kept kp, ⟨m0, ?_, fun i y av q1 q2 q3 => ?_⟩, fun y c e => ?_, ?_, fun y c e => (I.freeC y c (cm e).1), fun p hp => ?_, I.hok.kept kp, by rw [wipe_length]; exact I.len⟩
  · show Heap.Ns _ cenv.locals _
    rw [e2]
    exact hn
  · obtain ⟨q2, hne⟩ := wipe_some q2
    have no : ∀ k, scope.names.lookup y = some k → ¬ (k = .local ∨ k = .cell) := fun k hk hh => by
      rcases ok.own _ (PySem.mem_of_lookup hk) hh with e' | e'
      · obtain ⟨p, hp, hpy⟩ := List.mem_map.mp e'
        have e3 := ok.ix p hp
        have : p.1 = y := hpy
        rw [this] at e3
        exact hne (List.mem_map.mpr ⟨p, hp, nodup_ix hN e3 q1⟩)
      · exact e' (List.mem_of_getElem? q1)
    have q3 : Vis cenv.scope y := q3
    rw [e1] at q3
    have hfr : scope.names.lookup y = some .free := by
      rcases q3 with q3 | q3 | q3
      · exact absurd (.inl rfl) (no _ q3)
      · exact absurd (.inr rfl) (no _ q3)
      · exact q3
    obtain ⟨m, hn, hl⟩ := I.loc
    have hvis : Vis X.env.scope y := (ok.free _ (PySem.mem_of_lookup hfr) rfl).elim (fun k => .inr (.inl k)) (fun k => .inr (.inr k))
    obtain ⟨w, r, q⟩ := hl i y av q1 q2 hvis
    refine ⟨w, r, .inr ⟨.inr (by show cenv.scope.names.lookup y = _; rw [e1]; exact hfr), ?_⟩⟩
    obtain ⟨c, h1, h2⟩ := look hfr
    rcases q with ⟨k, _⟩ | ⟨_, c', e', z⟩
    · have k : X.env.scope.names.lookup y = some .local := k
      rcases ok.free _ (PySem.mem_of_lookup hfr) rfl with k' | k' <;> rw [show X.env.scope.names.lookup y = _ from k'] at k <;> cases k
    · rw [h2] at e'; cases e'
      exact ⟨c, h1, z.keeps kp⟩
  · obtain ⟨w, z⟩ := I.cell y c (cm e).1
    exact ⟨w, z.keeps kp⟩
  · show H cenv.locals = none
    rw [e2]; exact I.hok.fresh (Nat.le_refl _)
  · exact absurd (show p ∈ ([] : List (Addr × Obj)) ++ [] from hp) (by simp)
end
end Rf
/-! Rf41: what the evaluator says of all and any over a generator expression. -/
namespace Rf
open PySem PySem.Spec PyProof.Rows L2 PySem.W
/-- the evaluator's two forms as one -/
def quE (stop : Bool) (elt : E) (own : List Nat) (t : Rf.T) (it : E) (fs : List E) : E := match stop with
  | true => .any_ elt own t it fs
  | false => .all_ elt own t it fs
section
variable {X : Cx} {T : List Addr} {cl : Calls}
theorem ev_qu_inv {stop : Bool} {elt it : E} {own : List Nat} {t : Rf.T} {fs : List E} {env : Env} {st st' : St} {w : W} (h : ev cl (quE stop elt own t it fs) env st = some (w, st')) :
    ∃ ds b, st = [] ∧ evF cl it env [] = some (.seq ds, []) ∧ lenOk ds = true ∧ quant stop (ev cl elt) (tests (evT cl fs)) t (wipeE env own) ds = some b ∧ w = .d (.bl b) ∧ st' = [] := by
  have go : ∀ {b : Bool} {ds : List D}, seqOnly (evF cl it env []) = some ds → evF cl it env [] = some (.seq ds, []) ∧ lenOk ds = true := fun {b ds} h1 => by
    unfold seqOnly at h1
    split at h1
    · rename_i ds' h4
      cases hl : lenOk ds' with
      | false => rw [hl] at h1; cases h1
      | true => rw [hl] at h1; cases h1; exact ⟨h4, hl⟩
    · cases h1
  cases stop <;>
    (simp only [quE, ev] at h
     split at h
     · split at h
       · rename_i ds h1
         split at h
         · rename_i b h2
           cases h
           obtain ⟨h4, h5⟩ := go (b := b) h1
           exact ⟨ds, b, rfl, h4, h5, h2, rfl, rfl⟩
         · cases h
       · cases h
     · cases h)
theorem bool_inv {f : Env → St → Rs} {env : Env} {b : Bool} (h : Rf.bool (f env []) = some b) : ∃ st', f env [] = some (.d (.bl b), st') := by
  cases q : f env [] with
  | none => rw [q] at h; cases h
  | some p =>
    rw [q] at h
    obtain ⟨w, st'⟩ := p
    cases w with
    | d d =>
      cases d with
      | bl k => cases h; exact ⟨st', rfl⟩
      | _ => cases h
    | _ => cases h
theorem qu_step {stop : Bool} {elt it : E} {own : List Nat} {t : Rf.T} {fs : List E} {σ : L2.St} {H : Hp} {Q : VK} (ht : tgIn own t = true) (h : tEv T (ev cl (quE stop elt own t it fs)) σ H Q) :
    tQu stop (tIv T (evF cl it)) (tTg T t) (tTs T (tests (evT cl fs))) (tEv T (ev cl elt)) own σ H Q := by
  obtain ⟨F, ρ, env, st, w, st', r, hE, e1, fin⟩ := h
  obtain ⟨ds, res, rfl, h1, hl, h2, rfl, rfl⟩ := ev_qu_inv e1
  have e0 := nil_of r
  subst e0
  refine ⟨F, [], env, [], .seq ds, [], r, hE, h1, fun F1 ρ1 H1 J s1 r1 hJ => ?_⟩
  have e1 := nil_of r1
  subst e1
  refine ⟨fun i m Hi => ∃ F2, Step T F1 [] H1 F2 [] Hi ∧ Rl T F2 [] [] Hi ∧ quant stop (ev cl elt) (tests (evT cl fs)) t (wipeE env own) (ds.drop i) = some res ∧ m = ds.length - i ∧ i ≤ ds.length,
    ⟨ds.length, F1, Step.refl, r1, by simpa using h2, by simp, by simp⟩, ?_⟩
  rintro i m Hi ⟨F2, s2, r2, hc, em, hi⟩
  have J1 := hJ i F2 [] [] Hi s2.le ⟨[], rfl⟩ r2
  by_cases hlt : i < ds.length
  · have hx : nth ds i = some ds[i] := by rw [nth_eq]; exact List.getElem?_eq_getElem hlt
    simp only [nxt, hx] at J1
    have hdr : ds.drop i = ds[i] :: ds.drop (i + 1) := List.drop_eq_getElem_cons hlt
    rw [hdr] at hc
    simp only [quant] at hc
    refine .inr ⟨J1.1, fun H' => ∃ F3, Step T F1 [] H1 F3 [] H' ∧ Rl T F3 [] [] H' ∧ quant stop (ev cl elt) (tests (evT cl fs)) t (wipeE env own) (ds.drop (i + 1)) = some res, ?_, ?_⟩
    · rintro H' ⟨F3, q1, q2, q3⟩
      exact ⟨ds.length - (i + 1), by omega, F3, q1, q2, q3, rfl, hlt⟩
    · intro x H2 hy
      obtain ⟨F3, s3, r3, hx3⟩ := J1.2 x H2 hy
      have S3 := s2.trans s3
      split at hc
      · cases hc
      · rename_i env2 h3
        refine ⟨F3, [], wipeE env own, [], ds[i], env2, r3, ((RE.wipe hE own).step s1).step S3, hx3, h3, fun σ2 hE2 ow => ⟨(ow own ht).trans (wipe_sub fun _ h => h), ?_⟩⟩
        split at hc
        · cases hc
        · rename_i h4
          refine ⟨F3, env2, false, r3, hE2, h4, fun F4 H4 s4 r4 => ?_⟩
          show if false = true then _ else _
          rw [if_neg (by decide)]
          exact ⟨F4, S3.trans s4, r4, hc⟩
        · rename_i h4
          refine ⟨F3, env2, true, r3, hE2, h4, fun F4 H4 s4 r4 => ?_⟩
          show if true = true then _ else _
          rw [if_pos rfl]
          split at hc
          · rename_i b h5
            obtain ⟨st5, h7⟩ := bool_inv h5
            refine ⟨F4, [], env2, [], .d (.bl b), st5, r4, hE2.step s4, h7, fun F5 ρ5 H5 y s5 r5 w6 => ?_⟩
            cases (show y = .bl b from w6)
            have S5 : Step T F4 [] H4 F5 [] H5 := s5.drop
            refine ⟨b, rfl, ?_⟩
            split at hc
            · rename_i hb
              cases hc
              have hb : b = stop := eq_of_beq hb
              refine .inl ⟨hb, ?_⟩
              exact fin F5 [] H5 _ (s1.trans ((S3.trans s4).trans S5)) r5.none_ rfl
            · rename_i hb
              refine .inr ⟨?_, F5, (S3.trans s4).trans S5, r5.none_, hc⟩
              cases b <;> cases stop <;> first | rfl | (exact absurd hb (by decide))
          · cases hc
  · have ei : i = ds.length := by omega
    subst ei
    have hx : nth ds ds.length = none := by rw [nth_eq]; exact List.getElem?_eq_none (Nat.le_refl _)
    simp only [nxt, hx, stopAt_self] at J1
    have hc2 : quant stop (ev cl elt) (tests (evT cl fs)) t (wipeE env own) [] = some res := by
      rw [List.drop_length] at hc
      exact hc
    cases hc2
    exact .inl ⟨J1, fin F2 [] Hi _ (s1.trans s2) r2 rfl⟩
end
end Rf
/-! Rf42: the table of codes has grown. -/
namespace Rf
open PySem PySem.Spec PyProof.Rows L2 PySem.W
section
variable {T : List Addr} {F H H2 : Hp} {ρ : List Addr} {st : St} {P : Addr}
theorem tab_step (r : Rl T F ρ st H) (hP : P ∈ T) (ht : GxR.Tabbed P H H2) : Step T F ρ H F ρ H2 ∧ Rl T F ρ st H2 := by
  have ne : ∀ a, a ∉ T → H2 a = H a := fun a h => ht.2 a fun z => h (by rw [z]; exact hP)
  have nF : ∀ a o, F a = some o → H2 a = H a := fun a o e => ne a fun z => by rw [r.nT a z] at e; cases e
  refine ⟨⟨Le.refl, fun a o e => .inl e, ⟨[], by simp, fun a z => absurd z (by simp)⟩, fun a u e hT _ => by rw [ne a hT]; exact e, fun a u e => ?_⟩,
    ⟨fun a o e => by rw [nF a o e]; exact r.sub a o e, r.nT, fun a ha => ?_, r.len, r.nd, r.nTr, fun a ha => ?_, fun i a ob h1 h2 => ?_⟩⟩
  · by_cases hb : a = P
    · obtain ⟨ps, q, _⟩ := ht.1
      exact ⟨_, by rw [hb]; exact q⟩
    · exact ⟨u, by rw [ht.2 a hb]; exact e⟩
  · by_cases hb : a = P
    · rw [hb]; exact ht.1
    · obtain ⟨ps, q, k⟩ := r.tab a ha
      exact ⟨ps, by rw [ht.2 a hb]; exact q, k⟩
  · obtain ⟨o, q, k⟩ := r.has a ha
    exact ⟨o, by rw [ne a (r.nTr a ha)]; exact q, k⟩
  · have ha : a ∈ ρ := List.mem_of_getElem? h1
    have q := r.obs i a ob h1 h2
    have e := ne a (r.nTr a ha)
    cases ob with
    | lst ds =>
      obtain ⟨f, b, vs, eb, h3, h4⟩ := q
      cases eb
      exact ⟨f, a, vs, rfl, by rw [e]; exact h3, h4⟩
    | dct ks ws => exact ⟨q.1, q.2.dmove Le.refl fun o z => by rw [e]; exact z⟩
    | dead => trivial
end
/-- tQu, the table of codes at P grown once the source stands -/
def tQuP (P : Addr) (stop : Bool) (wi : TI) (g : TG) (tt : TT) (te : TE) (vs : List Nat) : TE := fun σ H Q => wi σ H fun J H1 => GxR.TabG H1 P ∧ ∀ H2, GxR.Tabbed P H1 H2 → ∃ W : Nat → Nat → Hp → Prop, (∃ m, W 0 m H2) ∧ ∀ i m H, W i m H →
  (J.stop i H ∧ Q (.bl (!stop)) H) ∨ (J.go i H ∧ ∃ Nx : Hp → Prop, (∀ H', Nx H' → ∃ m', m' < m ∧ W (i + 1) m' H') ∧ ∀ x H', J.yld i H x H' → g x (wipe σ vs) H' fun σ2 H2 => wipe σ2 vs = wipe σ vs ∧ tt σ2 H2 fun b H3 =>
    if b = true then te σ2 H3 fun y H4 => ∃ k, y = .bl k ∧ ((k = stop ∧ Q (.bl stop) H4) ∨ (k = !stop ∧ Nx H4)) else Nx H3)
section
variable {X : Cx} {T : List Addr} {cl : Calls}
theorem qu_stepP {P : Addr} {stop : Bool} {elt it : E} {own : List Nat} {t : Rf.T} {fs : List E} {σ : L2.St} {H : Hp} {Q : VK} (hP : P ∈ T) (ht : tgIn own t = true) (h : tEv T (ev cl (quE stop elt own t it fs)) σ H Q) :
    tQuP P stop (tIv T (evF cl it)) (tTg T t) (tTs T (tests (evT cl fs))) (tEv T (ev cl elt)) own σ H Q := by
  obtain ⟨F, ρ, env, st, w, st', r, hE, e1, fin⟩ := h
  obtain ⟨ds, res, rfl, h1, hl, h2, rfl, rfl⟩ := ev_qu_inv e1
  have e0 := nil_of r
  subst e0
  refine ⟨F, [], env, [], .seq ds, [], r, hE, h1, fun F1 ρ1 H0 J s0 r0 hJ => ⟨r0.tab P hP, fun H1 htb => ?_⟩⟩
  have e1 := nil_of r0
  subst e1
  obtain ⟨sT, r1⟩ := tab_step r0 hP htb
  have s1 := s0.trans sT
  refine ⟨fun i m Hi => ∃ F2, Step T F1 [] H1 F2 [] Hi ∧ Rl T F2 [] [] Hi ∧ quant stop (ev cl elt) (tests (evT cl fs)) t (wipeE env own) (ds.drop i) = some res ∧ m = ds.length - i ∧ i ≤ ds.length,
    ⟨ds.length, F1, Step.refl, r1, by simpa using h2, by simp, by simp⟩, ?_⟩
  rintro i m Hi ⟨F2, s2, r2, hc, em, hi⟩
  have J1 := hJ i F2 [] [] Hi s2.le ⟨[], rfl⟩ r2
  by_cases hlt : i < ds.length
  · have hx : nth ds i = some ds[i] := by rw [nth_eq]; exact List.getElem?_eq_getElem hlt
    simp only [nxt, hx] at J1
    have hdr : ds.drop i = ds[i] :: ds.drop (i + 1) := List.drop_eq_getElem_cons hlt
    rw [hdr] at hc
    simp only [quant] at hc
    refine .inr ⟨J1.1, fun H' => ∃ F3, Step T F1 [] H1 F3 [] H' ∧ Rl T F3 [] [] H' ∧ quant stop (ev cl elt) (tests (evT cl fs)) t (wipeE env own) (ds.drop (i + 1)) = some res, ?_, ?_⟩
    · rintro H' ⟨F3, q1, q2, q3⟩
      exact ⟨ds.length - (i + 1), by omega, F3, q1, q2, q3, rfl, hlt⟩
    · intro x H2 hy
      obtain ⟨F3, s3, r3, hx3⟩ := J1.2 x H2 hy
      have S3 := s2.trans s3
      split at hc
      · cases hc
      · rename_i env2 h3
        refine ⟨F3, [], wipeE env own, [], ds[i], env2, r3, ((RE.wipe hE own).step s1).step S3, hx3, h3, fun σ2 hE2 ow => ⟨(ow own ht).trans (wipe_sub fun _ h => h), ?_⟩⟩
        split at hc
        · cases hc
        · rename_i h4
          refine ⟨F3, env2, false, r3, hE2, h4, fun F4 H4 s4 r4 => ?_⟩
          show if false = true then _ else _
          rw [if_neg (by decide)]
          exact ⟨F4, S3.trans s4, r4, hc⟩
        · rename_i h4
          refine ⟨F3, env2, true, r3, hE2, h4, fun F4 H4 s4 r4 => ?_⟩
          show if true = true then _ else _
          rw [if_pos rfl]
          split at hc
          · rename_i b h5
            obtain ⟨st5, h7⟩ := bool_inv h5
            refine ⟨F4, [], env2, [], .d (.bl b), st5, r4, hE2.step s4, h7, fun F5 ρ5 H5 y s5 r5 w6 => ?_⟩
            cases (show y = .bl b from w6)
            have S5 : Step T F4 [] H4 F5 [] H5 := s5.drop
            refine ⟨b, rfl, ?_⟩
            split at hc
            · rename_i hb
              cases hc
              have hb : b = stop := eq_of_beq hb
              refine .inl ⟨hb, ?_⟩
              exact fin F5 [] H5 _ (s1.trans ((S3.trans s4).trans S5)) r5.none_ rfl
            · rename_i hb
              refine .inr ⟨?_, F5, (S3.trans s4).trans S5, r5.none_, hc⟩
              cases b <;> cases stop <;> first | rfl | (exact absurd hb (by decide))
          · cases hc
  · have ei : i = ds.length := by omega
    subst ei
    have hx : nth ds ds.length = none := by rw [nth_eq]; exact List.getElem?_eq_none (Nat.le_refl _)
    simp only [nxt, hx, stopAt_self] at J1
    have hc2 : quant stop (ev cl elt) (tests (evT cl fs)) t (wipeE env own) [] = some res := by
      rw [List.drop_length] at hc
      exact hc
    cases hc2
    exact .inl ⟨J1, fin F2 [] Hi _ (s1.trans s2) r2 rfl⟩
end
end Rf
/-! Rf43: a generator expression is made. -/
namespace Rf
open PySem PySem.Spec PyProof.Rows L2 PySem.W
/-- what stands behind the making: s4 the def's state, h' the frame laid, a the generator -/
structure Made (X : Cx) (pins : List (Addr × Obj)) (σ : L2.St) (H2 : Hp) (scope : Scope) (fp : List Addr) (tn : Nat → Heap → Prop) (code : Value) (s4 : Shared) (it : Addr) (h' : Heap) : Prop where
  inv : Inv X pins σ H2 s4
  tn0 : tn 0 s4.heap
  fpk : ∀ b ∈ fp, FpOk X pins H2 b ∧ b < s4.heap.objs.size
  ns : h'.Ns s4.heap.objs.size (fun y => if y = (".0" : Str) then some (.ref it) else none)
  kp : ∀ b o, s4.heap.get? b = some o → h'.get? b = some o
  sz : s4.heap.objs.size < h'.objs.size
def genO (g : Nat) (n1 n2 : Value) : Obj := { cls := .type "generator", data := .fields #[.int g 0, n1, n2] }
theorem genO_is {g : Nat} {n1 n2 : Value} {h : Heap} {a : Addr} (e : h.get? a = some (genO g n1 n2)) : h.IsGen a g := ⟨_, n1, n2, e, rfl, rfl, rfl⟩
section
variable {X : Cx} {pins : List (Addr × Obj)} {σ : L2.St} {H : Hp} {s : Shared}
theorem gen_make {c P : Addr} {elt tg iter : Expr} {ifs : List Expr} {gpos : Pos} {scope : Scope} {own : List (Str × Nat)} {wi : TI} {R : It → Hp → Prop} {Q' : Value → Shared → Prop}
    (hd : X.A.depth < recursionLimit) (TB : GxR.TabB X.base X.mg c P) (hcode : X.env.code = .ref c) (hco : scope.isCoroutine = false) (nocell : ∀ y ∈ scope.names, y.2 ≠ .cell) (h0 : scope.names.lookup (".0" : Str) = some NameKind.local) (ok : BlkOk X.N X.env.scope scope own)
    (hi : PI X tg iter wi) (hs : ∀ v, genFold iter X.env v = pure v) (I : Inv X pins σ H s) (h : wi σ H fun J H1 => GxR.TabG H1 P ∧ R J H1)
    (hQ : ∀ J H1 H2 it fp tn code s4 h' n1 n2 tk, R J H1 → GxR.Tabbed P H1 H2 → Turn X.prog X.w X.K tg J fp it tn → Made X pins σ H2 scope fp tn code s4 it h' →
      Q' (.ref h'.objs.size) { s4 with gens := s4.gens.push (.fresh (.compStart (.GeneratorExp elt [⟨tg, iter, ifs, 0⟩] scope gpos) 0 (.ref it) .none (genEnv scope (cloFrom X.env.cells scope.names []) s4.heap.objs.size code builtinsNs X.env))), toks := tk, heap := h'.push (genO s4.gens.size n1 n2) }) :
    wpAny (model X.prog X.w) X.A (eval (.GeneratorExp elt [⟨tg, iter, ifs, 0⟩] scope gpos) X.env) Q' X.xe s := by
  refine wpAny_GeneratorExp_make hco (closure_ok fun y hy e => (ok.free y hy e).elim (fun k => I.ok.has _ (.inl k)) fun k => I.ok.has _ (.inr k)) nocell h0 ok.kind hd ?_ hs
  refine thn (hi.run pins s σ H _ I h) fun xv s1 hx => thn hx fun itv s2 ⟨it, fp, tn, J, H1, e, I2, T, st2, f2, ⟨ps, hP, htr⟩, q⟩ => ?_
  subst e
  refine ⟨I2.nolimit, ?_⟩
  have hPs : s2.heap.get? P = some { cls := .none, data := .fields ps } := I2.hok P _ hP
  have cd : PySem.W.CodeHd s2.heap c P := TB.code.keeps fun b u e => I2.bk b u e
  have cont : ∀ (code : Value) (h3 : Heap) (tk : Nat) (ps' : Array Value), Heap.ExtBut P s2.heap h3 → s2.heap.objs.size ≤ h3.objs.size → h3.get? P = some { cls := .none, data := .fields ps' } → (∃ more, ps' = ps ++ more) → TriplesOk ps'.toList →
      wpAny (model X.prog X.w) X.A (builtinsFor X.env.globals X.env.builtins) (fun bi s₄ =>
        ∀ h', h'.Ns s₄.heap.objs.size (fun y => if y = (".0" : Str) then some (.ref it) else none) → Heap.SameBut s₄.heap.objs.size (s₄.heap.push { cls := .type "frame", data := .dict #[] }) h' →
          Q' (.ref h'.objs.size) { s₄ with
            gens := s₄.gens.push (.fresh (.compStart (.GeneratorExp elt [⟨tg, iter, ifs, 0⟩] scope gpos) 0 (.ref it) .none (genEnv scope (cloFrom X.env.cells scope.names []) s₄.heap.objs.size code bi X.env))),
            toks := s₄.toks + 1 + 1 + 1,
            heap := h'.push { cls := .type "generator", data := .fields #[.int s₄.gens.size 0, .str "<genexpr>" (s₄.toks + 1), .str (X.env.qual ++ "<genexpr>") (s₄.toks + 1 + 1)] } }) X.xe { s2 with heap := h3, toks := tk } := by
    intro code h3 tk ps' hx hsz hP3 ⟨more, em⟩ ht3
    obtain ⟨bm, ob, e1, e2, e3, e4, e5, e6, e7, e8⟩ := TB.bm
    have keep3 : ∀ b u, b ≠ P → s2.heap.get? b = some u → h3.get? b = some u := fun b u hb e => hx b u hb e
    have J3 : Inv X pins σ (upd H1 P (.tbl (ps ++ more))) { s2 with heap := h3, toks := tk } := GxR.inv_tab (g' := s2.gens) (d' := s2.drawn) I2 hP keep3 (by rw [← em]; exact hP3) I2.bare
    refine wpAny_builtinsFor (m := X.mg) (by rw [I2.ok.glob]; exact ((I2.mod.glob.keeps I2.bk)).extBut hx TB.gP) e1 e2 (keep3 _ _ e4 (I2.bk _ _ e5)) e6 e7 e8 ?_
    intro h' hn hsb
    have kp : ∀ b o, h3.get? b = some o → h'.get? b = some o := fun b o e => (hsb.2 b (Nat.ne_of_lt (Heap.lt_size e))).trans (Heap.get?_push_of_some _ e)
    refine hQ J H1 (upd H1 P (.tbl (ps ++ more))) it fp tn code { s2 with heap := h3, toks := tk } h' _ _ _ q ⟨⟨ps ++ more, upd_same, by rw [← em]; exact ht3⟩, fun b hb => upd_ne hb⟩ T ⟨J3, ?_, fun b hb => ?_, hn, kp, ?_⟩
    · exact T.keep _ _ _ st2 fun b hb o e => keep3 b o (fun z => by have := (f2 b hb).1; rw [z, hP] at this; cases this) e
    · have hbP : b ≠ P := fun z => by have := (f2 b hb).1; rw [z, hP] at this; cases this
      obtain ⟨o, e, _⟩ := T.obj _ _ st2 b hb
      exact ⟨⟨by rw [upd_ne hbP]; exact (f2 b hb).1, (f2 b hb).2⟩, Heap.lt_size (keep3 b o hbP e)⟩
    · exact hn.lt
  cases hf : codeAmong gpos ps.toList with
  | none =>
    refine wpAny_genexprCodeX hcode (cd.code hPs htr) (cd.tab hPs) hf fun c' h' tk hx hge hlt hco' _ htab' _ => ?_
    obtain ⟨o1, vs, f1, tf, fl, tg, inF, tx, tt, op, _, _, _, _, _, _, _, _, _, htr', _⟩ := hco'
    exact cont _ h' tk _ hx (Nat.le_trans hge (Nat.le_of_lt hlt)) htab'.2 ⟨_, rfl⟩ htr'
  | some cv =>
    refine wpAny_genexprCode_hit hcode (cd.code hPs htr) hf ?_
    exact cont cv s2.heap s2.toks ps (Heap.ExtBut.refl _ _) (Nat.le_refl _) hPs ⟨#[], by simp⟩ htr
end
end Rf
/-! Rf44: all and any over a generator expression. -/
namespace Rf
open PySem PySem.Spec PyProof.Rows L2 PySem.W GenW
theorem gn_frames {A : Around} {elt tg iter : Expr} {ifs : List Expr} {scope : Scope} {pos : Pos} {it : Addr} {cenv : PySem.Env} {l : List PySem.Env} (h : A.frames = some l) :
    (A.in1.in1.over (.compLoop (.GeneratorExp elt [⟨tg, iter, ifs, 0⟩] scope pos) 0 (.ref it) .none cenv) []).frames = some (cenv :: l) := by
  obtain ⟨hd, d, fr, gs, u⟩ := A
  cases h
  first
    | rfl
    | simp [Around.over, marksOver, frameCount, unitsOf, envsOf, guardsOf, pushEnvs, pushGuards, Code.envs, Code.env?, Code.isFrame]
end Rf
/-! Rf45: all and any over a generator expression, as one. -/
namespace Rf
open PySem PySem.Spec PyProof.Rows L2 PySem.W GenW
theorem gens_last {α : Type} {xs : Array α} {x : α} : (xs.push x)[xs.size]? = some x := by simp
section
variable {X : Cx} {pins : List (Addr × Obj)} {σ : L2.St}
/-- behind the making: the generator stands ready, and what a turn finds leads back -/
theorem gen_ready {P : Addr} {elt tg iter : Expr} {ifs : List Expr} {gpos : Pos} {scope : Scope} {own : List (Str × Nat)} {g : TG} {tt : TT} {te : TE} {stop : Bool} {Q : VK} {J : It} {H2 : Hp} {it : Addr} {fp : List Addr} {tn : Nat → Heap → Prop} {code : Value} {s4 : Shared} {h' : Heap} {n1 n2 : Value} {tk : Nat} {W : Nat → Nat → Hp → Prop} {m0 : Nat} {cenv : PySem.Env} {Y : Cx}
    (hc : X.calm = true) (hd : X.A.depth < recursionLimit) (hN : X.N.Nodup) (ok : BlkOk X.N X.env.scope scope own) (nocell : ∀ y ∈ scope.names, y.2 ≠ .cell) (hco : scope.isCoroutine = false) (hglob : X.env.globals = mainGlobals)
    (ec : cenv = genEnv scope (cloFrom X.env.cells scope.names []) s4.heap.objs.size code builtinsNs X.env)
    (eY : Y = gnCx X (X.A.in1.in1.over (.compLoop (.GeneratorExp elt [⟨tg, iter, ifs, 0⟩] scope gpos) 0 (.ref it) .none cenv) []) s4 H2 cenv fp)
    (T : Turn X.prog X.w X.K tg J fp it tn) (M : Made X pins σ H2 scope fp tn code s4 it h') (pg : PG Y tg g) (pt : PTs Y ifs tt) (pe : PE Y elt te) (w0 : W 0 m0 H2)
    (turn : ∀ i m H, W i m H → (J.stop i H ∧ Q (.bl (!stop)) H) ∨ (J.go i H ∧ ∃ Nx : Hp → Prop, (∀ H', Nx H' → ∃ m', m' < m ∧ W (i + 1) m' H') ∧ ∀ x H', J.yld i H x H' → g x (wipe σ (own.map (·.2))) H' fun σ2 H2 => wipe σ2 (own.map (·.2)) = wipe σ (own.map (·.2)) ∧ tt σ2 H2 fun b H3 =>
      if b = true then te σ2 H3 fun y H4 => ∃ k, y = .bl k ∧ ((k = stop ∧ Q (.bl stop) H4) ∨ (k = !stop ∧ Nx H4)) else Nx H3)) :
    (∃ m, GnW X.prog X.w X.A.in1 h'.objs.size s4.gens.size Y [(h'.objs.size, genO s4.gens.size n1 n2)] stop Q m
      { s4 with gens := s4.gens.push (.fresh (.compStart (.GeneratorExp elt [⟨tg, iter, ifs, 0⟩] scope gpos) 0 (.ref it) .none cenv)), toks := tk, heap := h'.push (genO s4.gens.size n1 n2) }) ∧
    ∀ m s, GnW X.prog X.w X.A.in1 h'.objs.size s4.gens.size Y [(h'.objs.size, genO s4.gens.size n1 n2)] stop Q m s →
      wpAny (model X.prog X.w) X.A.in1 (pyNext (.ref h'.objs.size)) (Found stop (GnW X.prog X.w X.A.in1 h'.objs.size s4.gens.size Y [(h'.objs.size, genO s4.gens.size n1 n2)] stop Q) (fun v s' => EP X pins σ Q v s') m) (fun _ _ => False) s := by
  have hgo : (h'.push (genO s4.gens.size n1 n2)).get? h'.objs.size = some (genO s4.gens.size n1 n2) := Heap.get?_push_size _ rfl
  have kpp : ∀ b o, s4.heap.get? b = some o → (h'.push (genO s4.gens.size n1 n2)).get? b = some o := fun b o e => Heap.get?_push_of_some _ (M.kp b o e)
  have hle : s4.heap.objs.size ≤ h'.objs.size := Nat.le_of_lt M.sz
  constructor
  · subst eY
    refine ⟨m0 + 1, genO_is hgo, M.inv.nolimit.keeps kpp, .fresh _, gens_last, rfl, gen_start (fun A Q E q => T.self A 0 _ Q E (T.keep _ _ _ M.tn0 fun b _ o e => kpp b o e) q) ?_⟩
    refine gen_seg (Y := gnCx X (X.A.in1.in1.over (.compLoop (.GeneratorExp elt [⟨tg, iter, ifs, 0⟩] scope gpos) 0 (.ref it) .none cenv) []) s4 H2 cenv fp) (A := X.A.in1.in1) (fp := fp) (vs := own.map (·.2)) (W := W) hc rfl rfl (fun p hp b hb z => ?_) rfl rfl (by subst ec; exact hco) T pg pt pe turn (m0 + 1) m0 0 _ _ H2 (Nat.lt_succ_self m0) ?_ (T.keep _ _ _ M.tn0 fun b _ o e => kpp b o e) (fun b hb => (M.fpk b hb).1.1) w0
    · have ep : p = (h'.objs.size, genO s4.gens.size n1 n2) := by simpa using hp
      rw [ep] at z
      have := (M.fpk b hb).2
      have z : h'.objs.size = b := z
      rw [← z] at this
      exact absurd this (Nat.not_lt.mpr hle)
    · have J := gen_block (A := X.A.in1.in1.over (.compLoop (.GeneratorExp elt [⟨tg, iter, ifs, 0⟩] scope gpos) 0 (.ref it) .none cenv) []) (cenv := cenv) (h' := h'.push (genO s4.gens.size n1 n2)) (t' := tk)
        (g' := ({ s4 with gens := s4.gens.push (.fresh (.compStart (.GeneratorExp elt [⟨tg, iter, ifs, 0⟩] scope gpos) 0 (.ref it) .none cenv)) } : Shared).setGen s4.gens.size .running |>.gens)
        M.inv ok hN M.fpk nocell (by subst ec; rfl) (by subst ec; rfl) (by subst ec; exact hglob) (by subst ec; rfl) (by subst ec; rfl) (by subst ec; rfl)
        (fun h => M.inv.ok.hd h) (gn_frames M.inv.ok.frames) (M.ns.keeps fun b o e => Heap.get?_push_of_some _ e) kpp (allBare_setGen (M.inv.bare.push rfl) rfl)
      refine J.pins_of fun p hp => ?_
      have ep : p = (h'.objs.size, genO s4.gens.size n1 n2) := by simpa using hp
      subst ep
      refine ⟨hgo, M.inv.hok.fresh hle, ?_, fun hb => ?_, fun v z => nomatch z⟩
      · show h'.objs.size ≠ cenv.locals
        subst ec
        exact Nat.ne_of_gt M.sz
      · rcases List.mem_cons.mp (M.inv.stkSub _ hb) with z | z
        · have z : h'.objs.size = X.env.locals := z
          have q := M.inv.lt
          rw [← z] at q
          exact Nat.lt_irrefl _ (Nat.lt_of_lt_of_le q hle)
        · exact M.inv.nofs hle z
  · refine fun m s hW => quant_step (A := X.A.in1) (a := h'.objs.size) (og := genO s4.gens.size n1 n2) (show X.A.in1.handled = none from M.inv.ok.hd hc) (show X.A.in1.depth < recursionLimit from hd) (fun h e => genO_is e) (List.mem_cons_self ..) (fun s1 k H' σ' I q x h2 hx hk => ?_) m s hW
    subst eY
    have I7 : Inv X pins σ H' s1 := M.inv.call' (ch := fp) I.os I.base I.hok I.bare fun b hb => ⟨(M.fpk b hb).1.2.2.2.1, (M.fpk b hb).1.2.1, (M.fpk b hb).1.2.2.2.2.1, (M.fpk b hb).1.2.2.2.2.2⟩
    have I8 : Inv X pins σ H' { s1 with heap := h2 } := I7.kept (t' := s1.toks) hk
    exact ⟨.bl k, H', Inv.withGens I8 (allBare_setGen I8.bare hx), rfl, q⟩
end
end Rf
/-! Rf46: all(.. for ..), any(.. for ..). -/
namespace Rf
open PySem PySem.Spec PyProof.Rows L2 PySem.W GenW
section
variable {X : Cx}
theorem gn_room {k : Nat} {A : Around} {elt tg iter : Expr} {ifs : List Expr} {scope : Scope} {pos : Pos} {it : Addr} {cenv : PySem.Env} (r : Room (k + 3) A) :
    Room k (A.in1.in1.over (.compLoop (.GeneratorExp elt [⟨tg, iter, ifs, 0⟩] scope pos) 0 (.ref it) .none cenv) []) := by
  obtain ⟨hd, dp, un⟩ := r
  refine ⟨hd, ?_, ?_⟩
  · show A.depth + 0 + 1 + 3 * k + 5 < _
    omega
  · show A.units + 1 + 1 + 0 + 3 + 16 * k + 200 < _
    omega
theorem pe_qu {k : Nat} {stop : Bool} {c P : Addr} {elt tg iter : Expr} {ifs : List Expr} {gpos p pos : Pos} {scope : Scope} {own : List (Str × Nat)} {wi : TI} {g : TG} {tt : TT} {te : TE}
    (hc : X.calm = true) (hr : Room (k + 3) X.A) (hN : X.N.Nodup) (hglob : X.env.globals = mainGlobals) (hg : Gl X (if stop then "any" else "all")) (hm : X.mg (if stop then "any" else "all") = none)
    (TB : GxR.TabB X.base X.mg c P) (hcode : X.env.code = .ref c) (hco : scope.isCoroutine = false) (nocell : ∀ y ∈ scope.names, y.2 ≠ .cell) (h0 : scope.names.lookup (".0" : Str) = some NameKind.local) (ok : BlkOk X.N X.env.scope scope own)
    (hi : PI X tg iter wi) (hs : ∀ v, genFold iter X.env v = pure v)
    (hpg : ∀ (A : Around) (s : Shared) (H : Hp) (C : Addr) (code : Value) (fp : List Addr), Room k A → PG (gnCx X A s H (genEnv scope (cloFrom X.env.cells scope.names []) C code builtinsNs X.env) fp) tg g)
    (hpt : ∀ (A : Around) (s : Shared) (H : Hp) (C : Addr) (code : Value) (fp : List Addr), Room k A → PTs (gnCx X A s H (genEnv scope (cloFrom X.env.cells scope.names []) C code builtinsNs X.env) fp) ifs tt)
    (hpe : ∀ (A : Around) (s : Shared) (H : Hp) (C : Addr) (code : Value) (fp : List Addr), Room k A → PE (gnCx X A s H (genEnv scope (cloFrom X.env.cells scope.names []) C code builtinsNs X.env) fp) elt te) :
    PE X (.Call (.Name (if stop then "any" else "all") p) [.GeneratorExp elt [⟨tg, iter, ifs, 0⟩] scope gpos] [] pos) (tQuP P stop wi g tt te (own.map (·.2))) := by
  have hd : X.A.depth < recursionLimit := hr.depth
  refine ⟨fun pins s σ H Q I h => ?_⟩
  have key : ∀ {A' : Around} (J : It) (H1 H2 : Hp) (it : Addr) (fp : List Addr) (tn : Nat → Heap → Prop) (code : Value) (s4 : Shared) (h' : Heap) (n1 n2 : Value) (tk : Nat),
      (∀ H2, GxR.Tabbed P H1 H2 → ∃ W : Nat → Nat → Hp → Prop, (∃ m, W 0 m H2) ∧ ∀ i m H, W i m H →
        (J.stop i H ∧ Q (.bl (!stop)) H) ∨ (J.go i H ∧ ∃ Nx : Hp → Prop, (∀ H', Nx H' → ∃ m', m' < m ∧ W (i + 1) m' H') ∧ ∀ x H', J.yld i H x H' → g x (wipe σ (own.map (·.2))) H' fun σ2 H2 => wipe σ2 (own.map (·.2)) = wipe σ (own.map (·.2)) ∧ tt σ2 H2 fun b H3 =>
          if b = true then te σ2 H3 fun y H4 => ∃ k, y = .bl k ∧ ((k = stop ∧ Q (.bl stop) H4) ∨ (k = !stop ∧ Nx H4)) else Nx H3)) →
      GxR.Tabbed P H1 H2 → Turn X.prog X.w X.K tg J fp it tn → Made X pins σ H2 scope fp tn code s4 it h' → wpAny (model X.prog X.w) X.A (call (.builtin (if stop then "any" else "all")) [.ref h'.objs.size]) (EP X pins σ Q) X.xe
        { s4 with gens := s4.gens.push (.fresh (.compStart (.GeneratorExp elt [⟨tg, iter, ifs, 0⟩] scope gpos) 0 (.ref it) .none (genEnv scope (cloFrom X.env.cells scope.names []) s4.heap.objs.size code builtinsNs X.env))), toks := tk, heap := h'.push (genO s4.gens.size n1 n2) } := by
    intro A' J H1 H2 it fp tn code s4 h' n1 n2 tk q htb T M
    obtain ⟨W, ⟨m0, w0⟩, turn⟩ := q H2 htb
    obtain ⟨⟨m, hW⟩, step⟩ := gen_ready (P := P) (n1 := n1) (n2 := n2) (tk := tk) hc hd hN ok nocell hco hglob rfl rfl T M (hpg _ _ _ _ _ _ (gn_room hr)) (hpt _ _ _ _ _ _ (gn_room hr)) (hpe _ _ _ _ _ _ (gn_room hr)) w0 turn
    cases stop with
    | false => exact call_all_of (wpAny_pyIter_gen hW.1 ⟨_, _, m, rfl, hW, step⟩)
    | true => exact call_any_of (wpAny_pyIter_gen hW.1 ⟨_, _, m, rfl, hW, step⟩)
  have hb : bootBuiltins (if stop then "any" else "all") = some (.builtin (if stop then "any" else "all")) := by cases stop <;> decide +kernel
  refine wpAny_Call_Name_kw (ld_blt I hg hm hb ?_ (by cases stop <;> decide) (by cases stop <;> decide))
  refine PyProof.Rows.callWith_builtin1 ?_ (starEach_plain rfl [] X.env) rfl
  rw [plain1 rfl]
  exact Calls.spliced_cons (gen_make hd TB hcode hco nocell h0 ok hi hs I h fun J H1 H2 it fp tn code s4 h' n1 n2 tk q htb T M => Calls.spliced_nil (key (A' := X.A) J H1 H2 it fp tn code s4 h' n1 n2 tk q htb T M))
end
end Rf
/-! Rf47: itertools.combinations: the facts. -/
namespace Rf
open PySem PySem.Spec PyProof.Rows L2 PySem.W
theorem cmb_sub : isSubtype (.type "itertools.combinations") (.type "itertools.combinations") = pure true := by rw [isSubtype_type]; kernel_rfl
theorem cmb_typeCall (a b : Value) : checkTypeCall "itertools.combinations" ⟨[a, b], []⟩ = pure () := by kernel_rfl
theorem cmb_newCall (a b : Value) : checkBuiltinCall "itertools.combinations.__new__" ⟨[.type "itertools.combinations", a, b], []⟩ = pure () := by kernel_rfl
theorem cmb_entry_new : entryFor table "itertools.combinations.__new__" = some Builtin.«itertools.combinations.__new__» := entryFor_of_tree (by kernel_rfl)
theorem cmb_entry_next : entryFor table "itertools.combinations.__next__" = some Builtin.«itertools.combinations.__next__» := entryFor_of_tree (by kernel_rfl)
theorem cmb_noDict : typeHasDict (.type "itertools.combinations") = false := by decide +kernel
theorem cmb_mro : mroOf (.type "itertools.combinations") = pure [.type "itertools.combinations", .type "object"] := by rw [mroOf_type]; kernel_rfl
theorem cmb_new : typeLookup (.type "itertools.combinations") "__new__" = pure (some (.builtin "itertools.combinations.__new__")) := by rw [typeLookup_type, builtinLookup_eq_fast]; kernel_rfl
theorem cmb_init : Slot "itertools.combinations" "__init__" "object.__init__" :=
  .of (owner := "object") (n := "__init__") (by rw [typeLookup_type, builtinLookup_eq_fast]; kernel_rfl) (by decide +kernel) (by decide +kernel) (by decide +kernel) (by first | exact .inl (by decide +kernel) | exact .inr (by decide +kernel)) (by rw [isSubtype_type]; kernel_rfl)
theorem cmb_called : TypeCalled "itertools.combinations" "itertools.combinations.__new__" "object.__init__" :=
  ⟨by decide +kernel, by decide +kernel, ⟨_, _, cmb_mro⟩, madeBy_type cmb_mro cmb_new (by decide +kernel), by decide +kernel, cmb_sub, cmb_init⟩
theorem cmb_iter : Slot "itertools.combinations" "__iter__" "itertools.combinations.__iter__" :=
  .of (owner := "itertools.combinations") (n := "__iter__") (by rw [typeLookup_type, builtinLookup_eq_fast]; kernel_rfl) (by decide +kernel) (by decide +kernel) (by decide +kernel) (by first | exact .inl (by decide +kernel) | exact .inr (by decide +kernel)) cmb_sub
theorem cmb_next : Slot "itertools.combinations" "__next__" "itertools.combinations.__next__" :=
  .of (owner := "itertools.combinations") (n := "__next__") (by rw [typeLookup_type, builtinLookup_eq_fast]; kernel_rfl) (by decide +kernel) (by decide +kernel) (by decide +kernel) (by first | exact .inl (by decide +kernel) | exact .inr (by decide +kernel)) cmb_sub
theorem cmb_entry_iter : entryFor table "itertools.combinations.__iter__" = some Builtin.«dict_keyiterator.__iter__» :=
  entryFor_alias (id' := "dict_keyiterator.__iter__") (by kernel_rfl) (by first | rfl | decide +kernel | (unfold String.splitOn; simp +decide [String.splitOnAux])) (by decide +kernel) (by kernel_rfl)
theorem cmb_owner : Manifest.owners.lookup (String.ofList (['s', 'n', 'o', 'i', 't', 'a', 'n', 'i', 'b', 'm', 'o', 'c', '.', 's', 'l', 'o', 'o', 't', 'r', 'e', 't', 'i'] : List Char).reverse) = some Manifest.sig_itertools_combinations := by kernel_rfl
theorem cmb_args_iter (a : Value) : argsOk "itertools.combinations.__iter__" ⟨[a], []⟩ := by
  unfold argsOk; rw [signature?_of (id := "itertools.combinations.__iter__") (n := ['_', '_', 'r', 'e', 't', 'i', '_', '_']) (o := ['s', 'n', 'o', 'i', 't', 'a', 'n', 'i', 'b', 'm', 'o', 'c', '.', 's', 'l', 'o', 'o', 't', 'r', 'e', 't', 'i']) (by kernel_rfl) cmb_owner]; kernel_rfl
theorem cmb_args_next (a : Value) : argsOk "itertools.combinations.__next__" ⟨[a], []⟩ := by
  unfold argsOk; rw [signature?_of (id := "itertools.combinations.__next__") (n := ['_', '_', 't', 'x', 'e', 'n', '_', '_']) (o := ['s', 'n', 'o', 'i', 't', 'a', 'n', 'i', 'b', 'm', 'o', 'c', '.', 's', 'l', 'o', 'o', 't', 'r', 'e', 't', 'i']) (by kernel_rfl) cmb_owner]; kernel_rfl
end Rf
/-! Rf48: itertools.combinations: its object. -/
namespace Rf
open PySem PySem.Spec PyProof.Rows L2 PySem.W
/-- the record at c: the pool's tuple, how far it is (0 new, 1 under way, 2 ended), what was told last, the places -/
def cmbO (pool : Addr) (st : Int) (last : Value) (ix : List Nat) : Obj := { cls := .type "itertools.combinations", data := .fields ([.ref pool, rawInt st, last] ++ ix.map fun (i : Nat) => rawInt i).toArray }
section
variable {prog : Program} {w : World} {A : Around} {E : Value → Shared → Prop} {s : Shared} {c pool : Addr} {st : Int} {last : Value} {ix : List Nat}
theorem cmb_pyIter {Q : Value → Shared → Prop} (hc : s.heap.get? c = some (cmbO pool st last ix)) (h : Q (.ref c) s) : wpAny (model prog w) A (pyIter (.ref c)) Q E s := by
  have hT : s.TypeIs (.ref c) "itertools.combinations" := ⟨_, hc, rfl⟩
  refine wpAny_pyIter_slot hT cmb_iter (wpAny_call_entry cmb_iter hT cmb_entry_iter ?_ (cmb_args_iter _))
  show wpAny _ _ (ret (.ref c)) _ _ s
  exact wpAny_pure ⟨_, rfl, "itertools.combinations", _, hT, cmb_next.lookup, h⟩
theorem cmb_ix : List.map (fun x => match x with | Value.int n tok => n.toNat | x => 0) (List.drop 3 ([Value.ref pool, rawInt st, last] ++ List.map (fun (i : Nat) => rawInt i) ix).toArray.toList) = ix := by
  simp [rawInt, Function.comp_def]
/-- a row is handed out -/
def handP (pool self : Value) (ix : List Nat) : Sem PySem.Fin := do
  let result ← (do
    let items ← Builtin.Itertools.itPoolItems pool
    newTuple (ix.map fun i => items.getD i .none))
  let before ← field self 2
  setField self 2 result
  letGo [before] [result]
  ret result
theorem cmb_hand {items : Array Value} {jx : List Nat} {Q : PySem.Fin → Shared → Prop} (hc : s.heap.get? c = some (cmbO pool st last jx)) (hp : s.heap.IsTuple pool items) (hix : ix.length ≤ sizeLine)
    (hQ : ∀ h', h'.get? c = some (cmbO pool st (.ref s.heap.objs.size) jx) → h'.get? s.heap.objs.size = some { cls := .type "tuple", data := .seq (ix.map fun i => items.getD i .none).toArray } → (∀ b o, b ≠ c → s.heap.get? b = some o → h'.get? b = some o) → Q (.done (.ret (.ref s.heap.objs.size))) { s with heap := h' }) :
    wpAny (model prog w) A (handP (.ref pool) (.ref c) ix) Q E s := by
  obtain ⟨op, hop, hpc, np, hpd⟩ := id hp
  unfold handP
  refine wpAny_bind ?_
  unfold Builtin.Itertools.itPoolItems
  refine wpAny_bind (wpAny_bind (wpAny_seqItems hop hpd (wpAny_pure ?_)))
  refine wpAny_newObj_type ?_ (by show (List.map (fun i => items.getD i Value.none) ix).toArray.size ≤ sizeLine; simpa using hix)
  have h2 : (s.heap.push { cls := .type "tuple", data := .seq (ix.map fun i => items.getD i .none).toArray }).get? c = some (cmbO pool st last jx) := Heap.get?_push_of_some _ hc
  refine wpAny_bind (wpAny_field h2 rfl (x := last) rfl ?_)
  refine wpAny_bind (wpAny_setField h2 rfl (by simp) ?_)
  refine wpAny_bind (wpAny_letGo ?_)
  have hne : c ≠ s.heap.objs.size := Nat.ne_of_lt (Heap.lt_size hc)
  refine wpAny_pure (hQ _ ?_ ?_ fun b o hb e => ?_)
  · exact (Heap.get?_update_self _ h2 rfl).trans (by simp [cmbO, Obj.mapFields])
  · exact (Heap.get?_update_other _ _ hne).trans (Heap.get?_push_size _ rfl)
  · exact (Heap.get?_update_other _ _ (Ne.symm hb)).trans (Heap.get?_push_of_some _ e)
theorem cmb_pool {items : Array Value} {h' : Heap} (hc : s.heap.get? c = some (cmbO pool st last ix)) (hp : s.heap.IsTuple pool items) (k : ∀ b o, b ≠ c → s.heap.get? b = some o → h'.get? b = some o) : h'.IsTuple pool items := by
  obtain ⟨o, ho, hcl, n, hd⟩ := id hp
  refine ⟨o, k pool o (fun z => ?_) ho, hcl, n, hd⟩
  rw [z, hc] at ho
  cases ho
  exact absurd hcl (by simp [cmbO])
/-- the first row -/
theorem cmb_first {items : Array Value} {Q : Option Value → Shared → Prop} (hc : s.heap.get? c = some (cmbO pool 0 last ix)) (hp : s.heap.IsTuple pool items) (hix : ix.length ≤ sizeLine)
    (hQ : ∀ h', h'.get? c = some (cmbO pool 1 (.ref s.heap.objs.size) ix) → h'.get? s.heap.objs.size = some { cls := .type "tuple", data := .seq (ix.map fun i => items.getD i .none).toArray } → (∀ b o, b ≠ c → s.heap.get? b = some o → h'.get? b = some o) → Q (some (.ref s.heap.objs.size)) { s with heap := h' }) :
    wpAny (model prog w) A (pyNext (.ref c)) Q E s := by
  have hT : s.TypeIs (.ref c) "itertools.combinations" := ⟨_, hc, rfl⟩
  unfold pyNext
  refine wpAny_bind (wpAny_attempt (wpAny_callSpecial?_slot (name := Str.ofString "__next__") hT cmb_next (wpAny_call_entry cmb_next hT cmb_entry_next ?_ (cmb_args_next _))))
  show wpAny _ _ (field (.ref c) 0 >>= _) _ _ s
  refine wpAny_bind (wpAny_field hc rfl (x := .ref pool) rfl ?_)
  show wpAny _ _ ((load c >>= _) >>= _) _ _ s
  refine wpAny_bind (wpAny_bind (wpAny_load hc ?_))
  refine wpAny_pure ?_
  show wpAny _ _ ((field (.ref c) 1 >>= _) >>= _) _ _ s
  refine wpAny_bind (wpAny_bind (wpAny_field hc rfl (x := rawInt 0) rfl (wpAny_pure ?_)))
  show wpAny _ _ (setField (.ref c) 1 (rawInt 1) >>= _) _ _ s
  refine wpAny_bind (wpAny_setField hc rfl (by simp) ?_)
  have h1 : (s.heap.update c (Obj.mapFields fun x => x.setIfInBounds 1 (rawInt 1))).get? c = some (cmbO pool 1 last ix) := (Heap.get?_update_self _ hc rfl).trans (by simp [cmbO, Obj.mapFields])
  have k1 : ∀ b o, b ≠ c → s.heap.get? b = some o → (s.heap.update c (Obj.mapFields fun x => x.setIfInBounds 1 (rawInt 1))).get? b = some o := fun b o hb e => (Heap.get?_update_other _ _ (Ne.symm hb)).trans e
  have hz : (s.heap.update c (Obj.mapFields fun x => x.setIfInBounds 1 (rawInt 1))).objs.size = s.heap.objs.size := by rw [Heap.size_update]
  generalize s.heap.update c (Obj.mapFields fun x => x.setIfInBounds 1 (rawInt 1)) = hh at h1 k1 hz
  have hp1 : hh.IsTuple pool items := cmb_pool hc hp k1
  show wpAny _ _ (handP (.ref pool) (.ref c) (List.map (fun x => match x with | Value.int n tok => n.toNat | x => 0) (List.drop 3 ([Value.ref pool, rawInt 0, last] ++ List.map (fun (i : Nat) => rawInt i) ix).toArray.toList))) _ _ _
  rw [cmb_ix]
  refine cmb_hand (s := { s with heap := hh }) h1 hp1 hix fun h' q1 q2 q3 => ⟨_, rfl, ?_⟩
  have q1 : h'.get? c = some (cmbO pool 1 (.ref hh.objs.size) ix) := q1
  have q2 : h'.get? hh.objs.size = some { cls := .type "tuple", data := .seq (ix.map fun i => items.getD i .none).toArray } := q2
  rw [hz] at q1 q2
  show wpAny _ _ (pure (some (Value.ref hh.objs.size))) _ _ _
  rw [hz]
  exact wpAny_pure (hQ h' q1 q2 fun b o hb e => q3 b o hb (k1 b o hb e))
/-- a further row -/
theorem cmb_more {items : Array Value} {jx : List Nat} {Q : Option Value → Shared → Prop} (hc : s.heap.get? c = some (cmbO pool 1 last ix)) (hp : s.heap.IsTuple pool items) (hn : nextC items.size ix = some jx) (hjx : jx.length ≤ sizeLine)
    (hQ : ∀ h', h'.get? c = some (cmbO pool 1 (.ref s.heap.objs.size) jx) → h'.get? s.heap.objs.size = some { cls := .type "tuple", data := .seq (jx.map fun i => items.getD i .none).toArray } → (∀ b o, b ≠ c → s.heap.get? b = some o → h'.get? b = some o) → Q (some (.ref s.heap.objs.size)) { s with heap := h' }) :
    wpAny (model prog w) A (pyNext (.ref c)) Q E s := by
  have hT : s.TypeIs (.ref c) "itertools.combinations" := ⟨_, hc, rfl⟩
  obtain ⟨op, hop, hpc, np, hpd⟩ := id hp
  unfold pyNext
  refine wpAny_bind (wpAny_attempt (wpAny_callSpecial?_slot (name := Str.ofString "__next__") hT cmb_next (wpAny_call_entry cmb_next hT cmb_entry_next ?_ (cmb_args_next _))))
  show wpAny _ _ (field (.ref c) 0 >>= _) _ _ s
  refine wpAny_bind (wpAny_field hc rfl (x := .ref pool) rfl ?_)
  show wpAny _ _ ((load c >>= _) >>= _) _ _ s
  refine wpAny_bind (wpAny_bind (wpAny_load hc ?_))
  refine wpAny_pure ?_
  show wpAny _ _ ((field (.ref c) 1 >>= _) >>= _) _ _ s
  refine wpAny_bind (wpAny_bind (wpAny_field hc rfl (x := rawInt 1) rfl (wpAny_pure ?_)))
  show wpAny _ _ (Builtin.Itertools.itPoolItems (.ref pool) >>= _) _ _ s
  unfold Builtin.Itertools.itPoolItems
  refine wpAny_bind (wpAny_bind (wpAny_seqItems hop hpd (wpAny_pure ?_)))
  show wpAny _ _ (match nextC items.size (List.map (fun x => match x with | Value.int n tok => n.toNat | x => 0) (List.drop 3 ([Value.ref pool, rawInt 1, last] ++ List.map (fun (i : Nat) => rawInt i) ix).toArray.toList)) with | some next => _ | none => _) _ _ s
  rw [cmb_ix, hn]
  show wpAny _ _ (updateFields c (fun fs => fs.extract 0 3 ++ (jx.map fun (n : Nat) => rawInt n).toArray) >>= _) _ _ s
  refine wpAny_bind (wpAny_updateFields hc rfl ?_ (by simp; omega))
  have h1 : (s.heap.update c (Obj.mapFields fun fs => fs.extract 0 3 ++ (jx.map fun (n : Nat) => rawInt n).toArray)).get? c = some (cmbO pool 1 last jx) := (Heap.get?_update_self _ hc rfl).trans (by simp [cmbO, Obj.mapFields])
  have k1 : ∀ b o, b ≠ c → s.heap.get? b = some o → (s.heap.update c (Obj.mapFields fun fs => fs.extract 0 3 ++ (jx.map fun (n : Nat) => rawInt n).toArray)).get? b = some o := fun b o hb e => (Heap.get?_update_other _ _ (Ne.symm hb)).trans e
  have hz : (s.heap.update c (Obj.mapFields fun fs => fs.extract 0 3 ++ (jx.map fun (n : Nat) => rawInt n).toArray)).objs.size = s.heap.objs.size := by rw [Heap.size_update]
  generalize s.heap.update c (Obj.mapFields fun fs => fs.extract 0 3 ++ (jx.map fun (n : Nat) => rawInt n).toArray) = hh at h1 k1 hz
  have hp1 : hh.IsTuple pool items := cmb_pool hc hp k1
  show wpAny _ _ (handP (.ref pool) (.ref c) jx) _ _ _
  refine cmb_hand (s := { s with heap := hh }) h1 hp1 hjx fun h' q1 q2 q3 => ⟨_, rfl, ?_⟩
  have q1 : h'.get? c = some (cmbO pool 1 (.ref hh.objs.size) jx) := q1
  have q2 : h'.get? hh.objs.size = some { cls := .type "tuple", data := .seq (jx.map fun i => items.getD i .none).toArray } := q2
  rw [hz] at q1 q2
  show wpAny _ _ (pure (some (Value.ref hh.objs.size))) _ _ _
  rw [hz]
  exact wpAny_pure (hQ h' q1 q2 fun b o hb e => q3 b o hb (k1 b o hb e))
/-- no further row -/
theorem cmb_last {items : Array Value} {Q : Option Value → Shared → Prop} (hh : A.handled = none) (hc : s.heap.get? c = some (cmbO pool 1 last ix)) (hp : s.heap.IsTuple pool items) (hn : nextC items.size ix = none)
    (hQ : ∀ h', (∀ b o, b ≠ c → s.heap.get? b = some o → h'.get? b = some o) → Q none { s with heap := h' }) : wpAny (model prog w) A (pyNext (.ref c)) Q E s := by
  have hT : s.TypeIs (.ref c) "itertools.combinations" := ⟨_, hc, rfl⟩
  obtain ⟨op, hop, hpc, np, hpd⟩ := id hp
  unfold pyNext
  refine wpAny_bind (wpAny_attempt (wpAny_callSpecial?_slot (name := Str.ofString "__next__") hT cmb_next (wpAny_call_entry cmb_next hT cmb_entry_next ?_ (cmb_args_next _))))
  show wpAny _ _ (field (.ref c) 0 >>= _) _ _ s
  refine wpAny_bind (wpAny_field hc rfl (x := .ref pool) rfl ?_)
  show wpAny _ _ ((load c >>= _) >>= _) _ _ s
  refine wpAny_bind (wpAny_bind (wpAny_load hc ?_))
  refine wpAny_pure ?_
  show wpAny _ _ ((field (.ref c) 1 >>= _) >>= _) _ _ s
  refine wpAny_bind (wpAny_bind (wpAny_field hc rfl (x := rawInt 1) rfl (wpAny_pure ?_)))
  show wpAny _ _ (Builtin.Itertools.itPoolItems (.ref pool) >>= _) _ _ s
  unfold Builtin.Itertools.itPoolItems
  refine wpAny_bind (wpAny_bind (wpAny_seqItems hop hpd (wpAny_pure ?_)))
  show wpAny _ _ (match nextC items.size (List.map (fun x => match x with | Value.int n tok => n.toNat | x => 0) (List.drop 3 ([Value.ref pool, rawInt 1, last] ++ List.map (fun (i : Nat) => rawInt i) ix).toArray.toList)) with | some next => _ | none => _) _ _ s
  rw [cmb_ix, hn]
  show wpAny _ _ (setField (.ref c) 1 (rawInt 2) >>= _) _ _ s
  refine wpAny_bind (wpAny_setField hc rfl (by simp) ?_)
  have k1 : ∀ b o, b ≠ c → s.heap.get? b = some o → (s.heap.update c (Obj.mapFields fun x => x.setIfInBounds 1 (rawInt 2))).get? b = some o := fun b o hb e => (Heap.get?_update_other _ _ (Ne.symm hb)).trans e
  generalize s.heap.update c (Obj.mapFields fun x => x.setIfInBounds 1 (rawInt 2)) = hp2 at k1
  show wpAny _ _ (newExc (.type "StopIteration") [] >>= _) _ _ _
  refine wpAny_bind ?_
  simp only [newExc, newTuple]
  refine wpAny_bind (wpAny_newObj_type ?_ (by size_fits))
  refine wpAny_bind (m := firstArgMember _ _) (wpAny_of_eq (a := Value.none) (by first | rfl | (simp only [firstArgMember]; rfl)) ?_)
  refine wpAny_newObj_type ?_ (by size_fits)
  simp only [raiseNew]
  refine wpAny_bind (wpAny_handled ?_)
  first | rw [show A.in1.handled = none from hh] | rw [hh]
  refine wpAny_bind (wpAny_pure (wpAny_throw ?_))
  refine wpAny_bind (wpAny_isInstance (T := "StopIteration") (b := true) ⟨_, Heap.get?_push_size _ rfl, rfl⟩ isSubtype_stop ?_)
  exact wpAny_pure (hQ _ fun b o hb e => Heap.get?_push_of_some _ (Heap.get?_push_of_some _ (k1 b o hb e)))
/-- no row at all -/
theorem cmb_none {Q : Option Value → Shared → Prop} (hh : A.handled = none) (hc : s.heap.get? c = some (cmbO pool 2 last ix))
    (hQ : ∀ h', (∀ b o, b ≠ c → s.heap.get? b = some o → h'.get? b = some o) → Q none { s with heap := h' }) : wpAny (model prog w) A (pyNext (.ref c)) Q E s := by
  have hT : s.TypeIs (.ref c) "itertools.combinations" := ⟨_, hc, rfl⟩
  unfold pyNext
  refine wpAny_bind (wpAny_attempt (wpAny_callSpecial?_slot (name := Str.ofString "__next__") hT cmb_next (wpAny_call_entry cmb_next hT cmb_entry_next ?_ (cmb_args_next _))))
  show wpAny _ _ (field (.ref c) 0 >>= _) _ _ s
  refine wpAny_bind (wpAny_field hc rfl (x := .ref pool) rfl ?_)
  show wpAny _ _ ((load c >>= _) >>= _) _ _ s
  refine wpAny_bind (wpAny_bind (wpAny_load hc ?_))
  refine wpAny_pure ?_
  show wpAny _ _ ((field (.ref c) 1 >>= _) >>= _) _ _ s
  refine wpAny_bind (wpAny_bind (wpAny_field hc rfl (x := rawInt 2) rfl (wpAny_pure ?_)))
  show wpAny _ _ (rule "itertools.combinations.ended" >>= _) _ _ s
  refine wpAny_bind (wpAny_rule ?_)
  show wpAny _ _ (newExc (.type "StopIteration") [] >>= _) _ _ _
  refine wpAny_bind ?_
  simp only [newExc, newTuple]
  refine wpAny_bind (wpAny_newObj_type ?_ (by size_fits))
  refine wpAny_bind (m := firstArgMember _ _) (wpAny_of_eq (a := Value.none) (by first | rfl | (simp only [firstArgMember]; rfl)) ?_)
  refine wpAny_newObj_type ?_ (by size_fits)
  simp only [raiseNew]
  refine wpAny_bind (wpAny_handled ?_)
  first | rw [show A.in1.handled = none from hh] | rw [hh]
  refine wpAny_bind (wpAny_pure (wpAny_throw ?_))
  refine wpAny_bind (wpAny_isInstance (T := "StopIteration") (b := true) ⟨_, Heap.get?_push_size _ rfl, rfl⟩ isSubtype_stop ?_)
  exact wpAny_pure (hQ _ fun b o hb e => Heap.get?_push_of_some _ (Heap.get?_push_of_some _ e))
end
end Rf
/-! Rf49: itertools.combinations is made. -/
namespace Rf
open PySem PySem.Spec PyProof.Rows L2 PySem.W
/-- what is collected of v: its values have R; Hh: what v's object is -/
def Coll (v : Value) (Hh : Heap → Prop) (R : List Value → Prop) : Prop := ∀ (prog : Program) (w : World) (A : Around) (E : Value → Shared → Prop) (s : Shared) (Q : List Value → Shared → Prop), A.handled = none → Hh s.heap →
  (∀ xs h' tk, R xs → (∀ b o, s.heap.get? b = some o → h'.get? b = some o) → Q xs { s with heap := h', toks := tk }) → wpAny (model prog w) A (collect v) Q E s
theorem coll_seq (a : Addr) {T : String} {items : Array Value} {n : Nat} (hT : T = "list" ∨ T = "tuple") (hz : items.size ≤ sizeLine) : Coll (.ref a) (fun h => ∃ o, h.get? a = some o ∧ o.cls = .type T ∧ o.data = .seq items n) (fun xs => xs = items.toList) :=
  fun prog w A E s Q hh ⟨o, ho, hc, hd⟩ h => wpAny_collect_seq a hT ho hc hd (fun h' k => h _ h' s.toks rfl k) hz
theorem coll_rng (r : Addr) {a b c : Int} {t u v : Tok} {n : Nat} (hsmall : Builtin.Range.small a b c = true) (hn : Builtin.Range.rangeSize a b c = n) (hlen : n ≤ 2 ^ 24) : Coll (.ref r) (fun h => IsRange h r a b c t u v) (fun xs => ItemsOf (fun i v => ∃ t, v = .int (a + i * c) t) xs.toArray n) :=
  fun prog w A E s Q hh hr h => collect_range hh hr hsmall hn hlen fun h' tk acc k hi => h _ h' tk (by simpa using hi) k
theorem cmb_make {v : Value} {Hh : Heap → Prop} {R : List Value → Prop} {k : Nat} {t : Tok} (hk : k ≤ 1000000) (C : Coll v Hh R) : Meets (Builtin.«itertools.combinations.__new__» ⟨[.type "itertools.combinations", v, .int k t], []⟩)
    (fun A Q s => A.handled = none ∧ Hh s.heap ∧ ∀ (xs : List Value) (h' : Heap) (tk : Nat), R xs → (∀ b o, s.heap.get? b = some o → h'.get? b = some o) → xs.length ≤ sizeLine ∧
      Q (.ok (.ret (.ref (h'.objs.size + 1)))) { s with heap := (h'.push { cls := .type "tuple", data := .seq xs.toArray }).push (cmbO h'.objs.size (if k > xs.length then 2 else 0) .none (List.range k)), toks := tk }) :=
  .of_wp fun prog w A Q s h => by
    obtain ⟨hp, g, d, tk, os⟩ := s
    obtain ⟨hh, h1, h⟩ := h
    have hsub := cmb_sub
    have hd := cmb_noDict
    have q1 : ∀ {A' : Around} {E : Value → Shared → Prop} {Q : List Value → Shared → Prop}, A'.handled = none → (∀ (xs : List Value) (h' : Heap) (tk' : Nat), R xs → (∀ b o, hp.get? b = some o → h'.get? b = some o) → Q xs ⟨h', g, d, tk', os⟩) → wpAny (model prog w) A' (collect v) Q E ⟨hp, g, d, tk, os⟩ :=
      fun hh q => C prog w _ _ ⟨hp, g, d, tk, os⟩ _ hh h1 q
    have es : ("itertools." ++ "combinations" : String) = "itertools.combinations" := by decide
    have eb : Builtin.Itertools.itBindNamed "combinations" ["iterable", "r"] 2 2 [v, Value.int (k : Int) t] [] = pure [some v, some (Value.int (k : Int) t)] := by rfl
    wp_walk using q1
    rw [es]
    refine wpAny_of_eq hsub ?_
    refine wpAny_pure ?_
    refine wpAny_bind (wpAny_of_eq eb ?_)
    show wpAny _ _ (Builtin.Itertools.itSsizeArg (Value.int (k : Int) t) >>= _) _ _ _
    refine wpAny_bind ?_
    unfold Builtin.Itertools.itSsizeArg
    refine wpAny_bind (wpAny_of_eq (a := (k : Int)) (by rfl) ?_)
    have c1 : (decide ((k : Int) < -2 ^ 63) || decide ((k : Int) ≥ 2 ^ 63)) = false := by
      rw [show decide ((k : Int) < -2 ^ 63) = false from decide_eq_false (by omega), show decide ((k : Int) ≥ 2 ^ 63) = false from decide_eq_false (by omega)]
      rfl
    dsimp only
    rw [c1]
    refine wpAny_pure ?_
    refine wpAny_bind (q1 hh fun xs h' tk' hR kp => ?_)
    obtain ⟨hz, hq⟩ := h xs h' tk' hR kp
    rw [if_neg (show ¬ (k : Int) < 0 by omega)]
    have c2 : Builtin.Itertools.itTooMany (k : Int) = false := by
      unfold Builtin.Itertools.itTooMany
      exact decide_eq_false (by omega)
    rw [c2]
    show wpAny _ _ (newTuple xs >>= _) _ _ _
    refine wpAny_bind (wpAny_newObj_type ?_ (by show xs.toArray.size ≤ sizeLine; simpa using hz))
    refine wpAny_pure ?_
    show wpAny _ _ (Builtin.Itertools.itNewRecord _ _ >>= _) _ _ _
    refine wpAny_bind ?_
    unfold Builtin.Itertools.itNewRecord
    rw [hd]
    rw [if_pos (by rfl)]
    dsimp only
    rw [Int.toNat_natCast]
    refine wpAny_newObj_type ?_ ?_
    · refine wpAny_pure ⟨_, rfl, ?_⟩
      have e1 : ((h'.push { cls := .type "tuple", data := .seq xs.toArray }).objs.size) = h'.objs.size + 1 := Heap.size_push ..
      show Q (Except.ok (Flow.ret (Value.ref (h'.push { cls := .type "tuple", data := .seq xs.toArray }).objs.size))) _
      rw [e1]
      exact hq
    · show (([Value.ref h'.objs.size, rawInt (if k > xs.length then 2 else 0), Value.none] ++ (List.range k).map fun (i : Nat) => rawInt i).toArray).size ≤ _
      simp
      rw [sizeLine_eq]
      omega
section
variable {prog : Program} {w : World} {A : Around} {E : Value → Shared → Prop} {s : Shared}
theorem cmb_call {v : Value} {Hh : Heap → Prop} {R : List Value → Prop} {k : Nat} {t : Tok} {Q : Value → Shared → Prop} (hk : k ≤ 100000) (C : Coll v Hh R) (hh : A.handled = none) (h1 : Hh s.heap)
    (h : ∀ (xs : List Value) (hm h' : Heap) (tk : Nat), R xs → (∀ b o, s.heap.get? b = some o → hm.get? b = some o) → (∀ b o, hm.get? b = some o → h'.get? b = some o) → h'.get? (hm.objs.size + 1) = some (cmbO hm.objs.size (if k > xs.length then 2 else 0) .none (List.range k)) → h'.IsTuple hm.objs.size xs.toArray →
      xs.length ≤ sizeLine ∧ Q (.ref (hm.objs.size + 1)) { s with heap := h', toks := tk }) : wpAny (model prog w) A (call (.type "itertools.combinations") [v, .int k t]) Q E s := by
  refine callType_new cmb_called (by decide) (cmb_typeCall _ _) (cmb_newCall _ _) (fun obj => PySem.F.args_object_init_3 obj _ _) cmb_entry_new (cmb_make (by omega) C) ⟨hh, h1, fun xs h' tk hR kp => ?_⟩
  have z1 : (h'.push { cls := .type "tuple", data := .seq xs.toArray }).objs.size = h'.objs.size + 1 := Heap.size_push ..
  have g1 : ((h'.push { cls := .type "tuple", data := .seq xs.toArray }).push (cmbO h'.objs.size (if k > xs.length then 2 else 0) .none (List.range k))).get? (h'.objs.size + 1) = some (cmbO h'.objs.size (if k > xs.length then 2 else 0) .none (List.range k)) := by
    rw [← z1]; exact Heap.get?_push_size _ rfl
  have g2 : ((h'.push { cls := .type "tuple", data := .seq xs.toArray }).push (cmbO h'.objs.size (if k > xs.length then 2 else 0) .none (List.range k))).get? h'.objs.size = some { cls := .type "tuple", data := .seq xs.toArray } := Heap.get?_push_of_some _ (Heap.get?_push_size _ rfl)
  obtain ⟨hz, hq⟩ := h xs h' _ tk hR kp (fun b o e => Heap.get?_push_of_some _ (Heap.get?_push_of_some _ e)) g1 ⟨_, g2, rfl, _, rfl⟩
  exact ⟨hz, ⟨_, g1, rfl⟩, hq⟩
end
/-! ### all rows -/
theorem cRows_cons {n f : Nat} {ix : List Nat} {L : List (List Nat)} (h : cRows n f ix = some L) : ∃ T, L = ix :: T := by
  cases f with
  | zero => cases h
  | succ f =>
    simp only [cRows] at h
    split at h
    · cases h; exact ⟨[], rfl⟩
    · split at h
      · cases h; exact ⟨_, rfl⟩
      · cases h
theorem cRows_next {n : Nat} : ∀ {f : Nat} {ix : List Nat} {L : List (List Nat)}, cRows n f ix = some L → ∀ (i : Nat) (jx : List Nat), L[i]? = some jx → nextC n jx = L[i + 1]?
  | 0, _, _, h, _, _, _ => by cases h
  | f + 1, ix, L, h, i, jx, hi => by
    simp only [cRows] at h
    split at h
    · rename_i h1
      cases h
      cases i with
      | zero => simp at hi; subst hi; simpa using h1
      | succ i => simp at hi
    · rename_i kx h1
      split at h
      · rename_i l h2
        cases h
        cases i with
        | zero =>
          simp at hi
          subst hi
          obtain ⟨T, rfl⟩ := cRows_cons h2
          simpa using h1
        | succ i => simpa using cRows_next h2 i jx (by simpa using hi)
      · cases h
end Rf
/-! Rf50: itertools.combinations is walked. -/
namespace Rf
open PySem PySem.Spec PyProof.Rows L2 PySem.W
def rowV (vs : List V) (ix : List Nat) : List V := ix.map fun i => vs.getD i .non
def rowU (us : List Value) (ix : List Nat) : List Value := ix.map fun i => us.toArray.getD i .none
theorem vals_getD {vs : List V} {us : List Value} (r : Vals vs us) (i : Nat) : RelV (vs.getD i .non) (us.toArray.getD i .none) := by
  rw [List.getD_eq_getElem?_getD]
  have e : us.toArray.getD i .none = (us[i]?).getD .none := by simp
  rw [e]
  cases h : vs[i]? with
  | none =>
    have : us[i]? = none := by
      rw [List.getElem?_eq_none_iff] at h ⊢
      rw [← r.length]; exact h
    rw [this]
    rfl
  | some v =>
    obtain ⟨u, hu, ru⟩ := r.get h
    rw [hu]
    exact ru
theorem vals_row {vs : List V} {us : List Value} (r : Vals vs us) : ∀ ix : List Nat, Vals (rowV vs ix) (rowU us ix)
  | [] => .nil
  | i :: t => .cons (vals_getD r i) (vals_row r t)
theorem rd_row {F : Hp} {xs : List D} {vs : List V} (r : RDs F xs vs) : ∀ ix : List Nat, RDs F (ix.map fun i => match nth xs i with | some d => d | none => .non) (rowV vs ix)
  | [] => rfl
  | i :: t => by
    refine RDs.cons ?_ (rd_row r t)
    show RD F (match nth xs i with | some d => d | none => .non) (vs.getD i .non)
    rw [List.getD_eq_getElem?_getD]
    cases h : nth xs i with
    | none =>
      have h1 := nth_none h
      rw [← r.length] at h1
      rw [List.getElem?_eq_none_iff.mpr h1]
      rfl
    | some d =>
      obtain ⟨v, hv, rv⟩ := r.nth h
      rw [hv]
      exact rv
/-- how far the record is -/
def CmbT (c pool : Addr) (us : List Value) (L : List (List Nat)) (i : Nat) (h : Heap) : Prop := h.IsTuple pool us.toArray ∧
  ((i = 0 ∧ L = [] ∧ ∃ last ix, h.get? c = some (cmbO pool 2 last ix)) ∨ (i = 0 ∧ ∃ last ix, L[0]? = some ix ∧ h.get? c = some (cmbO pool 0 last ix)) ∨ (∃ j last ix, i = j + 1 ∧ L[j]? = some ix ∧ h.get? c = some (cmbO pool 1 last ix)))
theorem CmbT.at {c pool : Addr} {us : List Value} {L : List (List Nat)} {i : Nat} {h : Heap} (t : CmbT c pool us L i h) : ∃ o, h.get? c = some o ∧ o.cls = .type "itertools.combinations" ∧ (∃ fs, o.data = .fields fs) ∧ ∀ v, o.data ≠ .cell v := by
  obtain ⟨_, ⟨_, _, _, _, e⟩ | ⟨_, _, _, _, e⟩ | ⟨_, _, _, _, _, e⟩⟩ := t <;> exact ⟨_, e, rfl, ⟨_, rfl⟩, fun v q => nomatch q⟩
theorem turn_cmb {P : Program} {w : World} {K : PySem.W.Frag} {tg : Expr} {c pool : Addr} {vs : List V} {us : List Value} {L : List (List Nat)} (r : Vals vs us) (hn : ∀ (i : Nat) (ix : List Nat), L[i]? = some ix → nextC us.length ix = L[i + 1]?) (hl : ∀ ix ∈ L, ix.length ≤ 1000) :
    Turn P w K tg (ItG fun _ xs => xs = L.map (rowV vs)) [c, pool] c (CmbT c pool us L) where
  mem := by simp
  obj := fun i h t b hb => by
    have e' : b = c ∨ b = pool := by simpa using hb
    rcases e' with rfl | rfl
    · obtain ⟨o, e, _, _, q⟩ := t.at
      exact ⟨o, e, q⟩
    · obtain ⟨⟨o, ho, hc, n, hd⟩, _⟩ := t
      exact ⟨o, ho, fun v q => by rw [hd] at q; cases q⟩
  keep := fun i h h' t k => by
    obtain ⟨⟨o, ho, hc, n, hd⟩, t⟩ := t
    refine ⟨⟨o, k _ (by simp) _ ho, hc, n, hd⟩, ?_⟩
    rcases t with ⟨h0, hL, l, ix, e⟩ | ⟨h0, l, ix, hL, e⟩ | ⟨j, l, ix, h0, hL, e⟩
    · exact .inl ⟨h0, hL, l, ix, k _ (by simp) _ e⟩
    · exact .inr (.inl ⟨h0, l, ix, hL, k _ (by simp) _ e⟩)
    · exact .inr (.inr ⟨j, l, ix, h0, hL, k _ (by simp) _ e⟩)
  item := by
    intro X hP hw hK hc i pins s σ H E I hf t hg
    subst hP hw hK
    obtain ⟨xs, x, rfl, hi⟩ := hg
    rw [List.getElem?_map] at hi
    cases hL : L[i]? with
    | none => rw [hL] at hi; cases hi
    | some jx =>
      rw [hL] at hi
      cases hi
      have hz : jx.length ≤ sizeLine := Nat.le_trans (hl _ (List.mem_of_getElem? hL)) (by rw [sizeLine_eq]; decide)
      have fin : ∀ h', h'.get? c = some (cmbO pool 1 (.ref s.heap.objs.size) jx) → h'.get? s.heap.objs.size = some { cls := .type "tuple", data := .seq (jx.map fun i => us.toArray.getD i .none).toArray } → (∀ b o, b ≠ c → s.heap.get? b = some o → h'.get? b = some o) →
          ∃ u, (some (Value.ref s.heap.objs.size)) = some u ∧ wpAny (model X.prog X.w) X.A (letOwnedTupleGo tg (.ref c) u) (fun _ s2 => ∃ x H', Inv X pins σ H' s2 ∧ RelV x u ∧ (ItG fun _ xs => xs = L.map (rowV vs)).yld i H x H' ∧ CmbT c pool us L (i + 1) s2.heap ∧ ∀ b ∈ [c, pool], H' b = none) E { s with heap := h' } := fun h' q1 q2 q3 => by
        refine ⟨_, rfl, go_of (s := { s with heap := h' }) q1 rfl rfl (by decide) ?_⟩
        have new : ObjOk X.prog X.w (upd H s.heap.objs.size (.tup (rowV vs jx))) h' s.heap.objs.size (.tup (rowV vs jx)) := ⟨by unfold rowV; rw [List.length_map]; exact hz, rowU us jx, vals_row r jx, ⟨_, q2, rfl, _, rfl⟩⟩
        have hpn : H s.heap.objs.size = none := I.hok.fresh (Nat.le_refl _)
        have I1 : Inv X pins σ (upd H s.heap.objs.size (.tup (rowV vs jx))) { s with heap := h' } := I.turnedNew (t' := s.toks) (ch := [c]) (fun b o hb q => q3 b o (by simpa using hb) q) (fun b hb => by rw [List.mem_singleton.mp hb]; exact hf c (by simp)) (Nat.le_refl _) new
        have hps : pool < s.heap.objs.size := by obtain ⟨⟨o, ho, _⟩, _⟩ := t; exact Heap.lt_size ho
        have hcs : c < s.heap.objs.size := by obtain ⟨o, ho, _⟩ := t.at; exact Heap.lt_size ho
        refine ⟨.ref s.heap.objs.size, _, I1, rfl, ⟨_, _, rfl, hpn, rfl, fun ys hy => by rw [hy, List.getElem?_map, hL]; rfl⟩, ⟨?_, .inr (.inr ⟨i, _, jx, rfl, hL, q1⟩)⟩, fun b hb => ?_⟩
        · obtain ⟨⟨o, ho, hcl, n, hd⟩, _⟩ := id t
          refine ⟨o, q3 _ _ (fun z => ?_) ho, hcl, n, hd⟩
          obtain ⟨o2, e2, c2, _⟩ := t.at
          rw [z, e2] at ho
          cases ho
          rw [c2] at hcl
          exact absurd hcl (by simp)
        · have e' : b = c ∨ b = pool := by simpa using hb
          rw [upd_ne (Nat.ne_of_lt (by rcases e' with rfl | rfl <;> assumption))]
          exact (hf b hb).1
      have us1 : us.toArray.size = us.length := by simp
      obtain ⟨hp, ⟨rfl, hL0, _⟩ | ⟨rfl, l, ix, hL0, e⟩ | ⟨j, l, ix, rfl, hL0, e⟩⟩ := id t
      · rw [hL0] at hL; cases hL
      · rw [hL0] at hL
        cases hL
        exact cmb_first e hp hz fun h' q1 q2 q3 => fin h' q1 q2 q3
      · refine cmb_more e hp (jx := jx) (by rw [us1, hn _ _ hL0, hL]) hz fun h' q1 q2 q3 => fin h' q1 q2 q3
  done := by
    intro X hP hw hK hc i pins s σ H E I hf t hg
    subst hP hw hK
    obtain ⟨xs, rfl, hi⟩ := hg
    rw [List.length_map] at hi
    have us1 : us.toArray.size = us.length := by simp
    have fin : ∀ h', (∀ b o, b ≠ c → s.heap.get? b = some o → h'.get? b = some o) → Inv X pins σ H { s with heap := h' } := fun h' k => I.turnedL (t' := s.toks) (ch := [c]) (fun b o hb q => k b o (by simpa using hb) q) fun b hb => by rw [List.mem_singleton.mp hb]; exact hf c (by simp)
    obtain ⟨hp, ⟨rfl, hL0, l, ix, e⟩ | ⟨rfl, l, ix, hL0, e⟩ | ⟨j, l, ix, rfl, hL0, e⟩⟩ := id t
    · exact cmb_none (I.ok.hd hc) e fun h' k => ⟨rfl, fin h' k⟩
    · have := (List.getElem?_eq_some_iff.mp hL0).1
      omega
    · refine cmb_last (I.ok.hd hc) e hp (by rw [us1, hn _ _ hL0]; exact List.getElem?_eq_none_iff.mpr (by omega)) fun h' k => ⟨rfl, fin h' k⟩
  self := fun A i s Q E t h => by
    obtain ⟨_, ⟨_, _, _, _, e⟩ | ⟨_, _, _, _, e⟩ | ⟨_, _, _, _, _, e⟩⟩ := t <;> exact cmb_pyIter e h
/-- the rows, as the evaluator has them -/
theorem itok_cmb {T : List Addr} {F : Hp} {ρ : List Addr} {xs : List D} {vs : List V} {L : List (List Nat)} (hr : ∀ F', Le F F' → RDs F' xs vs) : ItOk T F ρ (.seq (L.map (rowD xs))) (ItG fun _ ys => ys = L.map (rowV vs)) := by
  intro i F' ρ' st H l m r
  have hx : nxt (.seq (L.map (rowD xs))) st i = (match nth (L.map (rowD xs)) i with | some x => Nxt.item x | none => stopAt i (L.map (rowD xs)).length) := rfl
  rw [hx, nth_eq, List.getElem?_map]
  cases hL : L[i]? with
  | some ix =>
    refine ⟨⟨_, rowV vs ix, rfl, by rw [List.getElem?_map, hL]; rfl⟩, fun x H' ⟨p, y, ex, hp, eH, hy⟩ => ?_⟩
    subst ex eH
    have := hy _ rfl
    rw [List.getElem?_map, hL] at this
    cases this
    exact made_tup r hp (rd_row (hr F' l) ix)
  | none =>
    exact stop_match fun e => ⟨_, rfl, by rw [e]; simp⟩
section
variable {X : Cx} {T : List Addr} {cl : Calls} {p pos p2 pos2 : Pos} {a k tg : Expr} {a' k' : E}
theorem rowsC_next {n k : Nat} {L : List (List Nat)} (h : rowsC n k = some L) : (∀ (i : Nat) (ix : List Nat), L[i]? = some ix → nextC n ix = L[i + 1]?) ∧ (∀ ix ∈ L, ix.length ≤ 1000) ∧ ((k > n ∧ L = []) ∨ (¬ k > n ∧ L[0]? = some (List.range k))) := by
  unfold rowsC at h
  split at h
  · rename_i hb
    cases h
    refine ⟨fun i ix h => (by cases h), fun ix h => (by cases h), .inl ⟨?_, rfl⟩⟩
    rw [← Bool.not_eq_true] at hb
    exact Nat.lt_of_not_le fun z => hb (Nat.ble_eq_true_of_le z)
  · rename_i hb
    split at h
    · rename_i L2 h2
      split at h
      · rename_i h3
        cases h
        refine ⟨fun i ix hi => cRows_next h2 i ix hi, fun ix hm => Nat.le_of_ble_eq_true (List.all_eq_true.mp h3 ix hm), .inr ⟨Nat.not_lt_of_le (Nat.le_of_ble_eq_true hb), ?_⟩⟩
        obtain ⟨t, rfl⟩ := cRows_cons h2
        rfl
      · cases h
    · cases h
theorem cmb_src {v : Value} {Hh : Heap → Prop} {R0 : List Value → Prop} {vs : List V} {n : Nat} {t : Tok} {L : List (List Nat)} {pins : List (Addr × Obj)} {σ : L2.St} {H : Hp} {s : Shared} {R : It → Hp → Prop} (hc : X.calm = true) (hz : vs.length ≤ sizeLine) (hn : n ≤ 100000) (I : Inv X pins σ H s) (C : Coll v Hh R0) (h1 : Hh s.heap)
    (hv : ∀ xs, R0 xs → Vals vs xs) (hL : rowsC vs.length n = some L) (q : R (ItG fun _ ys => ys = L.map (rowV vs)) H) :
    wpAny (model X.prog X.w) X.A (call (.type "itertools.combinations") [v, .int n t]) (fun v s1 => wpAny (model X.prog X.w) X.A (pyIter v) (PIE X pins σ tg R) X.xe s1) X.xe s := by
  refine cmb_call hn C (I.ok.hd hc) h1 fun xs hm h' tk hx k1 k2 g1 g2 => ?_
  have rv := hv xs hx
  have el := rv.length
  refine ⟨by rw [← el]; exact hz, ?_⟩
  have Im : Inv X pins σ H { s with heap := hm } := I.kept (t' := s.toks) k1
  have I2 : Inv X pins σ H { s with heap := h', toks := tk } := Im.kept (t' := tk) k2
  obtain ⟨c1, c2, c3⟩ := rowsC_next hL
  refine cmb_pyIter (s := { s with heap := h', toks := tk }) g1 ⟨_, [hm.objs.size + 1, hm.objs.size], _, _, H, rfl, I2, turn_cmb rv (by rw [← el]; exact c1) c2, ⟨g2, ?_⟩, fun b hb => ?_, q⟩
  · rcases c3 with ⟨h3, rfl⟩ | ⟨h3, h4⟩
    · rw [if_pos (by rw [← el]; exact h3)] at g1
      exact .inl ⟨rfl, rfl, _, _, g1⟩
    · rw [if_neg (by rw [← el]; exact h3)] at g1
      exact .inr (.inl ⟨rfl, _, _, h4, g1⟩)
  · have e' : b = hm.objs.size + 1 ∨ b = hm.objs.size := by simpa using hb
    have hle : hm.objs.size ≤ b := by rcases e' with z | z <;> (rw [z]; first | exact Nat.le_refl _ | exact Nat.le_add_right _ _)
    exact Im.fpOk hle (Im.hok.fresh hle)
/-- combinations(range(a), k): till the call -/
theorem cmb_args {Q : Value → Shared → Prop} {pins : List (Addr × Obj)} {σ : L2.St} {H : Hp} {s : Shared} {F : Hp} {ρ : List Addr} {env : Env} {st st1 st2 : St} {i : Int} {w : W} (hg : Gl X "combinations") (hm : X.mg "combinations" = some (.type "itertools.combinations")) (hg2 : Gl X "range") (hm2 : X.mg "range" = none) (pa : plainE a = true) (pk : plainE k = true) (ha : PE X a (tEv T (ev cl a'))) (hk : PE X k (tEv T (ev cl k')))
    (I : Inv X pins σ H s) (r : Rl T F ρ st H) (hE : RE F ρ env σ) (h1 : ev cl a' env st = some (.d (.int i), st1)) (h2 : ev cl k' env st1 = some (w, st2))
    (fin : ∀ (r : Addr) (t u v : Tok) (x : V) (y : Value) (s1 : Shared) (H1 F1 : Hp) (ρ1 : List Addr), IsRange s1.heap r 0 i 1 t u v → Inv X pins σ H1 s1 → RelV x y → Step T F ρ H F1 ρ1 H1 → Rl T F1 ρ1 st2 H1 → RW F1 ρ1 w x → wpAny (model X.prog X.w) X.A (call (.type "itertools.combinations") [.ref r, y]) Q X.xe s1) :
    wpAny (model X.prog X.w) X.A (eval (.Call (.Name "combinations" p) [.Call (.Name "range" p2) [a] [] pos2, k] [] pos) X.env) Q X.xe s := by
  refine Call_ (ld_glob I hg hm (PyProof.Rows.callWith_type1 (args_cons ?_ (starEach_plain rfl [k] X.env)) (starEach_plain rfl [k] X.env) (by rw [plain1 pk]; rfl)))
  refine Call_ (ld_blt I hg2 hm2 boot_range (PyProof.Rows.callWith_type1 (one_arg ha I (R := fun x H1 => x = .int i ∧ ∃ F' ρ', Step T F ρ H F' ρ' H1 ∧ Rl T F' ρ' st1 H1) ⟨F, ρ, env, st, _, st1, r, hE, h1, fun F' ρ' H' v s' r' hw => ⟨hw, F', ρ', s', r'⟩⟩ (fun v s2 x H2 I2 r2 q => ?_) (starEach_plain pa [] X.env)) (starEach_plain pa [] X.env)))
  obtain ⟨rfl, F', ρ', s', r'⟩ := q
  obtain ⟨t, rfl⟩ := r2
  refine call_range_1 ?_
  have I3 : Inv X pins σ H2 { s2 with heap := s2.heap.push { cls := .type "range", data := .fields #[.int 0 s2.toks, .int i t, .int 1 (s2.toks + 1)] }, toks := s2.toks + 1 + 1 } := I2.kept fun b u e => Heap.get?_push_of_some _ e
  have I4 := I3.pins_of (pins' := (s2.heap.objs.size, { cls := .type "range", data := .fields #[.int 0 s2.toks, .int i t, .int 1 (s2.toks + 1)] }) :: pins) fun p hp => by
    rcases List.mem_cons.mp hp with rfl | hp
    · exact ⟨Heap.get?_push_size _ rfl, I2.hok.fresh (Nat.le_refl _), Nat.ne_of_gt I2.lt, I2.nofs (Nat.le_refl _), fun v q => nomatch q⟩
    · exact I3.pin p (List.mem_append_right _ hp)
  refine args_cons (thn (hk.run _ _ σ H2 (fun x H1 => ∃ F2 ρ2, Step T F' ρ' H2 F2 ρ2 H1 ∧ Rl T F2 ρ2 st2 H1 ∧ RW F2 ρ2 w x) I4 ⟨F', ρ', env, st1, w, st2, r', hE.step s', h2, fun F2 ρ2 H3 v s3 r3 hw => ⟨F2, ρ2, s3, r3, hw⟩⟩) fun u s3 ⟨x, H3, I5, r5, F2, ρ2, s4, r4, hw⟩ => args_nil ?_) (starEach_plain pk [] X.env)
  have hp := (I5.pin (s2.heap.objs.size, { cls := .type "range", data := .fields #[.int 0 s2.toks, .int i t, .int 1 (s2.toks + 1)] }) (List.mem_append_right _ List.mem_cons_self)).1
  have I6 : Inv X pins σ H3 s3 := I5.pins_of fun p hp => I5.pin p (List.mem_append_right _ (List.mem_cons_of_mem _ hp))
  exact fin _ _ _ _ x u s3 H3 F2 ρ2 hp I6 r5 (s'.trans s4) r4 hw
theorem pi_cmb1 (hc : X.calm = true) (hg : Gl X "combinations") (hm : X.mg "combinations" = some (.type "itertools.combinations")) (hg2 : Gl X "range") (hm2 : X.mg "range" = none) (pa : plainE a = true) (pk : plainE k = true) (ha : PE X a (tEv T (ev cl a'))) (hk : PE X k (tEv T (ev cl k'))) :
    PI X tg (.Call (.Name "combinations" p) [.Call (.Name "range" p2) [a] [] pos2, k] [] pos) (tIv T (evF cl (.combs (.rng1 a') k'))) := by
  refine ⟨fun pins s σ H R I h => ?_⟩
  obtain ⟨F, ρ, env, st, it, st', r, hE, e1, fin⟩ := h
  simp only [evF] at e1
  split at e1
  · rename_i xs st1 h1
    split at h1
    · rename_i i st3 h3
      split at h1
      · rename_i hs
        simp only [Option.some.injEq, Prod.mk.injEq, Rf.Itr.seq.injEq] at h1
        obtain ⟨rfl, rfl⟩ := h1
        rw [Bool.and_eq_true] at hs
        split at e1
        · rename_i j st2 h2
          split at e1
          · rename_i hb
            simp only [Bool.and_eq_true, Bool.not_eq_true'] at hb
            obtain ⟨⟨⟨b1, b2⟩, b3⟩, b4⟩ := hb
            unfold combR at e1
            split at e1
            · rename_i ds e2
              split at e2
              · rename_i L hL
                cases e2
                cases e1
                have hj : 0 ≤ j := by
                  rw [ilt_eq] at b1
                  exact Int.not_lt.mp (of_decide_eq_false b1)
                have b3 := Nat.le_of_ble_eq_true b3
                refine cmb_args hg hm hg2 hm2 pa pk ha hk I r hE h3 h2 fun ra t u v x y s1 H1 F1 ρ1 hr I1 rx sx r1 hw => ?_
                cases (show x = .int j from hw)
                obtain ⟨tk, rfl⟩ := rx
                obtain ⟨n, rfl⟩ : ∃ n : Nat, j = n := ⟨j.toNat, by omega⟩
                have ok := rg_small small0 hs.1 (by rw [Int.sub_zero]; exact Nat.le_of_ble_eq_true hs.2)
                obtain ⟨o1, o2, o3, o4, o5⟩ := id ok
                have lr : (rngUp 0 i.toNat).length = (rgV 0 i).length := by
                  have := (rg_rds (F := F1) i.toNat 0).length
                  rw [← this]
                  simp [rgV]
                refine cmb_src hc (by rw [rgV_length, sizeLine_eq]; omega) (by simpa using Nat.le_trans b3 (by decide)) I1 (coll_rng ra (small_one o1 o2 o3 o4) (rangeSize_nat 0 i) o5) hr (vs := rgV 0 i) (fun ys hy => by simpa using vals_rg hy) (by rw [← lr]; simpa using hL) (fin F1 ρ1 H1 _ sx r1 (itok_cmb fun F' l => ?_))
                have := rg_rds (F := F') i.toNat 0
                simpa [rgV] using this
              · cases e2
            · cases e1
          · cases e1
        · cases e1
      · cases h1
    · cases h1
  · cases e1
end
end Rf
/-! Rf51: list(combinations(..)). -/
namespace Rf
open PySem PySem.Spec PyProof.Rows L2 PySem.W
theorem cmb_nolen : typeLookup (.type "itertools.combinations") "__len__" = pure none := by rw [typeLookup_type, builtinLookup_eq_fast]; kernel_rfl
theorem cmb_nohint : typeLookup (.type "itertools.combinations") "__length_hint__" = pure none := by rw [typeLookup_type, builtinLookup_eq_fast]; kernel_rfl
theorem fpOk_upd {X : Cx} {pins : List (Addr × Obj)} {H : Hp} {b p : Addr} {o : HO} (f : FpOk X pins H b) (h : b ≠ p) : FpOk X pins (upd H p o) b := ⟨by rw [upd_ne h]; exact f.1, f.2⟩
section
variable {X : Cx} {pins : List (Addr × Obj)} {σ : L2.St} {c pool : Addr} {vs : List V} {us : List Value} {L : List (List Nat)}
theorem CmbT.keepC {i : Nat} {h h' : Heap} (t : CmbT c pool us L i h) (k : ∀ b, (b = c ∨ b = pool) → ∀ o, h.get? b = some o → h'.get? b = some o) : CmbT c pool us L i h' := by
  obtain ⟨⟨o, ho, hc, n, hd⟩, t⟩ := t
  refine ⟨⟨o, k _ (.inr rfl) _ ho, hc, n, hd⟩, ?_⟩
  rcases t with ⟨h0, hL, l, ix, e⟩ | ⟨h0, l, ix, hL, e⟩ | ⟨j, l, ix, h0, hL, e⟩
  · exact .inl ⟨h0, hL, l, ix, k _ (.inl rfl) _ e⟩
  · exact .inr (.inl ⟨h0, l, ix, hL, k _ (.inl rfl) _ e⟩)
  · exact .inr (.inr ⟨j, l, ix, h0, hL, k _ (.inl rfl) _ e⟩)
theorem CmbT.pool_lt {i : Nat} {h : Heap} (t : CmbT c pool us L i h) : pool < h.objs.size := by obtain ⟨⟨o, ho, _⟩, _⟩ := t; exact Heap.lt_size ho
theorem CmbT.c_lt {i : Nat} {h : Heap} (t : CmbT c pool us L i h) : c < h.objs.size := by obtain ⟨o, ho, _⟩ := t.at; exact Heap.lt_size ho
theorem cmb_item {A : Around} {E : Value → Shared → Prop} {Q : Option Value → Shared → Prop} {H : Hp} {s : Shared} {i : Nat} {jx : List Nat} (r : Vals vs us) (hn : ∀ (i : Nat) (ix : List Nat), L[i]? = some ix → nextC us.length ix = L[i + 1]?) (hl : ∀ ix ∈ L, ix.length ≤ 1000) (I : Inv X pins σ H s) (f : FpOk X pins H c) (t : CmbT c pool us L i s.heap) (hL : L[i]? = some jx)
    (hQ : ∀ h', Inv X pins σ (upd H s.heap.objs.size (.tup (rowV vs jx))) { s with heap := h' } → CmbT c pool us L (i + 1) h' → (∀ b o, b ≠ c → s.heap.get? b = some o → h'.get? b = some o) → Q (some (.ref s.heap.objs.size)) { s with heap := h' }) :
    wpAny (model X.prog X.w) A (pyNext (.ref c)) Q E s := by
  have hz : jx.length ≤ sizeLine := Nat.le_trans (hl _ (List.mem_of_getElem? hL)) (by rw [sizeLine_eq]; decide)
  have fin : ∀ h', h'.get? c = some (cmbO pool 1 (.ref s.heap.objs.size) jx) → h'.get? s.heap.objs.size = some { cls := .type "tuple", data := .seq (jx.map fun i => us.toArray.getD i .none).toArray } → (∀ b o, b ≠ c → s.heap.get? b = some o → h'.get? b = some o) → Q (some (.ref s.heap.objs.size)) { s with heap := h' } := fun h' q1 q2 q3 => by
    have new : ObjOk X.prog X.w (upd H s.heap.objs.size (.tup (rowV vs jx))) h' s.heap.objs.size (.tup (rowV vs jx)) := ⟨by unfold rowV; rw [List.length_map]; exact hz, rowU us jx, vals_row r jx, ⟨_, q2, rfl, _, rfl⟩⟩
    have I1 : Inv X pins σ (upd H s.heap.objs.size (.tup (rowV vs jx))) { s with heap := h' } := I.turnedNew (t' := s.toks) (ch := [c]) (fun b o hb q => q3 b o (by simpa using hb) q) (fun b hb => by rw [List.mem_singleton.mp hb]; exact f) (Nat.le_refl _) new
    refine hQ h' I1 ⟨?_, .inr (.inr ⟨i, _, jx, rfl, hL, q1⟩)⟩ q3
    obtain ⟨⟨o, ho, hcl, n, hd⟩, _⟩ := id t
    refine ⟨o, q3 _ _ (fun z => ?_) ho, hcl, n, hd⟩
    obtain ⟨o2, e2, c2, _⟩ := t.at
    rw [z, e2] at ho
    cases ho
    rw [c2] at hcl
    exact absurd hcl (by simp)
  have us1 : us.toArray.size = us.length := by simp
  obtain ⟨hp, ⟨rfl, hL0, _⟩ | ⟨rfl, l, ix, hL0, e⟩ | ⟨j, l, ix, rfl, hL0, e⟩⟩ := id t
  · rw [hL0] at hL; cases hL
  · rw [hL0] at hL
    cases hL
    exact cmb_first e hp hz fin
  · exact cmb_more e hp (jx := jx) (by rw [us1, hn _ _ hL0, hL]) hz fin
theorem cmb_done {A : Around} {E : Value → Shared → Prop} {Q : Option Value → Shared → Prop} {H : Hp} {s : Shared} (hh : A.handled = none) (hn : ∀ (i : Nat) (ix : List Nat), L[i]? = some ix → nextC us.length ix = L[i + 1]?) (I : Inv X pins σ H s) (f : FpOk X pins H c) (t : CmbT c pool us L L.length s.heap)
    (hQ : ∀ h', Inv X pins σ H { s with heap := h' } → (∀ b o, b ≠ c → s.heap.get? b = some o → h'.get? b = some o) → Q none { s with heap := h' }) :
    wpAny (model X.prog X.w) A (pyNext (.ref c)) Q E s := by
  have us1 : us.toArray.size = us.length := by simp
  have fin : ∀ h', (∀ b o, b ≠ c → s.heap.get? b = some o → h'.get? b = some o) → Q none { s with heap := h' } := fun h' k => hQ h' (I.turnedL (t' := s.toks) (ch := [c]) (fun b o hb q => k b o (by simpa using hb) q) fun b hb => by rw [List.mem_singleton.mp hb]; exact f) k
  obtain ⟨hp, ⟨h0, hL0, l, ix, e⟩ | ⟨h0, l, ix, hL0, e⟩ | ⟨j, l, ix, h0, hL0, e⟩⟩ := id t
  · exact cmb_none hh e fin
  · have := (List.getElem?_eq_some_iff.mp hL0).1
    omega
  · exact cmb_last hh e hp (by rw [us1, hn _ _ hL0]; exact List.getElem?_eq_none_iff.mpr (by omega)) fin
/-- the rows go into the list S -/
theorem cmb_loop {A : Around} {R : Result → Shared → Prop} {S : Addr} {res : Value} (hh : A.handled = none) (r : Vals vs us) (hn : ∀ (i : Nat) (ix : List Nat), L[i]? = some ix → nextC us.length ix = L[i + 1]?) (hl : ∀ ix ∈ L, ix.length ≤ 1000) (hz : L.length ≤ sizeLine)
    (hSc : S ≠ c) (hSp : S ≠ pool) (G : Nat → Hp → List V → Prop) (hG : ∀ i jx H ys p, L[i]? = some jx → G i H ys → H p = none → G (i + 1) (upd H p (.tup (rowV vs jx))) (ys ++ [.ref p])) :
    ∀ (k i : Nat) (s : Shared) (H : Hp) (acc : List Value) (ys : List V) (n : Nat), L.length - i = k → i ≤ L.length → Inv X pins σ H s → FpOk X pins H c → FpOk X pins H S → CmbT c pool us L i s.heap → s.heap.get? S = some { cls := .type "list", dict := none, data := .seq acc.toArray n, slots := #[] } → Vals ys acc → ys.length = i → G i H ys →
    (∀ s' H' acc' ys' n', Inv X pins σ H' s' → FpOk X pins H' S → s'.heap.get? S = some { cls := .type "list", dict := none, data := .seq (List.toArray acc') n', slots := #[] } → Vals ys' acc' → ys'.length = L.length → G L.length H' ys' → R (.ok (.ret res)) s') →
    codeAny (model X.prog X.w) A (.builtin "list.extend.loop" ⟨[.ref S, .ref c, res], []⟩) R s := by
  have hh1 : A.in1.handled = none := hh
  intro k
  induction k with
  | zero =>
    intro i s H acc ys n hk hi I fc fS t hS rv hy g hR
    have hin : i = L.length := by omega
    subst hin
    refine codeAny_builtin F.entry_extend_loop ?_
    rw [Around.under_plainId F.plain_extend_loop _]
    show wpAny _ A.in1 (pyNext (.ref c) >>= _) _ _ s
    refine wpAny_bind (cmb_done hh1 hn I fc t fun h' I1 kp => ?_)
    exact wpAny_pure (hR { s with heap := h' } H acc ys n I1 fS (kp S _ hSc hS) rv hy g)
  | succ k ih =>
    intro i s H acc ys n hk hi I fc fS t hS rv hy g hR
    have hlt : i < L.length := by omega
    have hL : L[i]? = some L[i] := List.getElem?_eq_getElem hlt
    refine codeAny_builtin F.entry_extend_loop ?_
    rw [Around.under_plainId F.plain_extend_loop _]
    show wpAny _ A.in1 (pyNext (.ref c) >>= _) _ _ s
    refine wpAny_bind (cmb_item r hn hl I fc t hL fun h' I1 t1 kp => ?_)
    have hS' := kp S _ hSc hS
    have hSlt : S < s.heap.objs.size := Heap.lt_size hS
    show wpAny _ A.in1 (updateSeq S (·.push (.ref s.heap.objs.size)) >>= _) _ _ _
    refine wpAny_bind ?_
    have fS1 : FpOk X pins (upd H s.heap.objs.size (.tup (rowV vs L[i]))) S := fpOk_upd fS (Nat.ne_of_lt hSlt)
    have fc1 : FpOk X pins (upd H s.heap.objs.size (.tup (rowV vs L[i]))) c := fpOk_upd fc (Nat.ne_of_lt t.c_lt)
    have hA : (List.toArray (acc ++ [Value.ref s.heap.objs.size])) = acc.toArray.push (.ref s.heap.objs.size) := by simp
    obtain ⟨n', e3⟩ : ∃ n', (h'.update S (Obj.mapSeq (·.push (Value.ref s.heap.objs.size)))).get? S = some { cls := .type "list", dict := none, data := .seq (List.toArray (acc ++ [Value.ref s.heap.objs.size])) n', slots := #[] } := ⟨_, by rw [hA]; exact Heap.get?_update_self _ hS' rfl⟩
    refine wpAny_updateSeq hS' rfl (wpAny_pure ⟨plainId_quiet F.plain_extend_loop _, ih (i + 1) _ (upd H s.heap.objs.size (.tup (rowV vs L[i]))) (acc ++ [.ref s.heap.objs.size]) (ys ++ [.ref s.heap.objs.size]) n' (by omega) hlt ?_ fc1 fS1 (t1.keepC fun b hb o e => ?_) e3 ?_ (by simp [hy]) (hG i L[i] H ys _ hL g (I.hok.fresh (Nat.le_refl _))) hR⟩)
      ?_ ?_
    · refine I1.turnedL (t' := s.toks) (ch := [S]) (fun b o hb q => (Heap.get?_update_other _ _ (fun z => hb (by simp [z]))).trans q) fun b hb => by rw [List.mem_singleton.mp hb]; exact fS1
    · refine (Heap.get?_update_other _ _ fun z => ?_).trans e
      rcases hb with rfl | rfl
      · exact hSc z
      · exact hSp z
    · exact Vals.append rv (.cons rfl .nil)
    · have := rv.length
      simp
      omega
    · have := rv.length
      simp
      omega
theorem call_list_cmb {H : Hp} {s : Shared} {Q : VK} (hc : X.calm = true) (r : Vals vs us) (hn : ∀ (i : Nat) (ix : List Nat), L[i]? = some ix → nextC us.length ix = L[i + 1]?) (hl : ∀ ix ∈ L, ix.length ≤ 1000) (hz : L.length ≤ sizeLine)
    (G : Nat → Hp → List V → Prop) (hG : ∀ i jx H ys p, L[i]? = some jx → G i H ys → H p = none → G (i + 1) (upd H p (.tup (rowV vs jx))) (ys ++ [.ref p]))
    (I : Inv X pins σ H s) (f : FpOk X pins H c) (t : CmbT c pool us L 0 s.heap) (g : G 0 H []) (h : ∀ H' ys S, G L.length H' ys → H' S = none → Q (.ref S) (upd H' S (.lst ys))) : wpAny (model X.prog X.w) X.A (call (.type "list") [.ref c]) (EP X pins σ Q) X.xe s := by
  have hh : X.A.handled = none := I.ok.hd hc
  refine callType_codes (Q₁ := fun obj s₁ => obj = .ref s.heap.objs.size ∧ s₁ = { s with heap := s.heap.push { cls := .type "list", data := .seq #[] } }) F.called_list (F.typeCall_list_1 _) F.entry_list_init
    (code_list_new _ ⟨rfl, rfl⟩) fun obj s₁ h₁ => ?_
  obtain ⟨rfl, rfl⟩ := h₁
  have hS : (s.heap.push { cls := .type "list", data := .seq #[] }).get? s.heap.objs.size = some { cls := .type "list", data := .seq #[] } := Heap.get?_push_size _ rfl
  have I1 : Inv X pins σ H { s with heap := s.heap.push { cls := .type "list", data := .seq #[] } } := I.kept (t' := s.toks) fun b u e => Heap.get?_push_of_some _ e
  have fS : FpOk X pins H s.heap.objs.size := I.fpOk (Nat.le_refl _) (I.hok.fresh (Nat.le_refl _))
  have hSc : s.heap.objs.size ≠ c := Nat.ne_of_gt t.c_lt
  have hSp : s.heap.objs.size ≠ pool := Nat.ne_of_gt t.pool_lt
  have t1 : CmbT c pool us L 0 (s.heap.push { cls := .type "list", data := .seq #[] }) := t.keepC fun b _ o e => Heap.get?_push_of_some _ e
  generalize hS0 : s.heap.objs.size = S at hS fS hSc hSp
  refine ⟨⟨_, hS, rfl⟩, F.args_list_init_2 _ _, ?_⟩
  clear hS0
  generalize s.heap.push { cls := .type "list", data := .seq #[] } = hp1 at I1 hS t1
  show wpAny _ X.A.in1.in1 (do let old ← Builtin.List.listItems (.ref S); Builtin.List.listUpdate (.ref S) (fun _ => #[]); letGo old.toList.reverse; Builtin.List.listExtendWith (.ref S) (.ref c) .none) _ _ _
  refine wpAny_bind ?_
  unfold Builtin.List.listItems
  refine wpAny_bind (wpAny_seqItems hS rfl (wpAny_pure ?_))
  show wpAny _ X.A.in1.in1 (updateSeq S (fun _ => #[]) >>= fun _ => letGo (#[] : Array Value).toList.reverse >>= fun _ => Builtin.List.listExtendWith (.ref S) (.ref c) .none) _ _ _
  refine wpAny_bind (wpAny_updateSeq hS rfl ?_)
  refine wpAny_bind (wpAny_letGo ?_)
  have up : ∀ {hp : Heap} {fn : Obj → Obj} {o : Obj}, Inv X pins σ H { s with heap := hp } → CmbT c pool us L 0 hp → hp.get? S = some o → Inv X pins σ H { s with heap := hp.update S fn } ∧ CmbT c pool us L 0 (hp.update S fn) := fun {hp fn o} I t e =>
    ⟨Inv.turnedL (s := { s with heap := hp }) (t' := s.toks) (ch := [S]) I (fun b o hb q => (Heap.get?_update_other _ _ (fun z => hb (by simp [z]))).trans q) fun b hb => by rw [List.mem_singleton.mp hb]; exact fS,
      t.keepC fun b hb o e => (Heap.get?_update_other _ _ fun z => by
        rcases hb with rfl | rfl
        · exact hSc z
        · exact hSp z).trans e⟩
  obtain ⟨I2, t2⟩ := up (fn := Obj.mapSeq (fun _ => (#[] : Array Value))) I1 t1 hS
  have hS₁ := Heap.get?_update_self (Obj.mapSeq (fun _ => (#[] : Array Value))) hS rfl
  generalize hp1.update S (Obj.mapSeq (fun _ => (#[] : Array Value))) = hp2 at I2 t2 hS₁
  unfold Builtin.List.listExtendWith
  have hT : ({ s with heap := hp2 } : Shared).TypeIs (.ref c) "itertools.combinations" := by obtain ⟨o, e, hc, _⟩ := t2.at; exact ⟨o, e, hc⟩
  refine wpAny_bind (wpAny_typeOf hT ?_)
  have h1 : Builtin.List.listSameRef (.ref S) (.ref c) = false := by simp [Builtin.List.listSameRef, hSc]
  have h2 : (Value.type "itertools.combinations" == Value.type "list") = false := by decide
  have h3 : (Value.type "itertools.combinations" == Value.type "tuple") = false := by decide
  simp only [h1, h2, h3, Bool.or_false, Bool.false_eq_true, if_false]
  have self : ∀ {A : Around} {E : Value → Shared → Prop} {Q : Value → Shared → Prop}, Q (.ref c) { s with heap := hp2 } → wpAny (model X.prog X.w) A (pyIter (.ref c)) Q E { s with heap := hp2 } := fun q => by
    obtain ⟨_, ⟨_, _, _, _, e⟩ | ⟨_, _, _, _, e⟩ | ⟨_, _, _, _, _, e⟩⟩ := t2 <;> exact cmb_pyIter (s := { s with heap := hp2 }) e q
  refine wpAny_bind (self ?_)
  refine wpAny_bind (wpAny_holding ?_)
  unfold Builtin.List.listLengthHint
  refine wpAny_bind (wpAny_specialOf hT cmb_nolen ?_)
  show wpAny _ X.A.in1.in1 (specialOf (Value.ref c) (Str.ofString "__length_hint__") >>= _) _ _ _
  refine wpAny_bind (wpAny_specialOf hT cmb_nohint ?_)
  refine wpAny_pure ?_
  show wpAny _ X.A.in1.in1 (rule "list.extend.makes-room" >>= fun _ => Builtin.List.listTouch (.ref S) >>= fun _ =>
    again (.builtin "list.extend.loop" ⟨[.ref S, .ref c, .none], []⟩)) _ _ _
  refine wpAny_bind (wpAny_rule ?_)
  refine wpAny_bind ?_
  show wpAny _ X.A.in1.in1 (updateSeq S (·.push .none) >>= fun _ => updateSeq S (·.pop)) _ _ _
  refine wpAny_bind (wpAny_updateSeq hS₁ rfl ?_)
  obtain ⟨I3, t3⟩ := up (fn := Obj.mapSeq (·.push Value.none)) I2 t2 hS₁
  have hS₂ := Heap.get?_update_self (Obj.mapSeq (·.push Value.none)) hS₁ rfl
  generalize hp2.update S (Obj.mapSeq (·.push Value.none)) = hp3 at I3 t3 hS₂
  refine wpAny_updateSeq (hz := by seq_fits) hS₂ rfl ?_
  obtain ⟨I4, t4⟩ := up (fn := Obj.mapSeq (·.pop)) I3 t3 hS₂
  have hS₃ := Heap.get?_update_self (Obj.mapSeq (·.pop)) hS₂ rfl
  generalize hp3.update S (Obj.mapSeq (·.pop)) = hp4 at I4 t4 hS₃
  refine wpAny_pure ⟨plainId_quiet F.plain_extend_loop _, cmb_loop (A := X.A.in1) hh r hn hl hz hSc hSp G hG L.length 0 _ H [] [] _ (by omega) (Nat.zero_le _) I4 f fS t4 hS₃ .nil rfl g fun s' H' acc' ys' n' I5 f5 e5 rv5 hy5 g5 => ⟨rfl, ?_⟩⟩
  refine ⟨.ref S, upd H' S (.lst ys'), I5.take (h' := s'.heap) (t' := s'.toks) (fun b ob _ e => e) f5 (show ObjOk X.prog X.w _ _ _ (.lst ys') from ⟨by rw [hy5]; exact hz, acc', n', rv5, e5⟩), rfl, h H' ys' S g5 f5.1⟩
theorem combs_ev {cl : Calls} {a' k' : E} {env : Env} {st st' : St} {it : Itr} (e1 : evF cl (.combs (.rng1 a') k') env st = some (it, st')) :
    ∃ (i : Int) (st1 : St) (n : Nat) (L : List (List Nat)), ev cl a' env st = some (.d (.int i), st1) ∧ RgOk 0 i ∧ ev cl k' env st1 = some (.d (.int n), st') ∧ n ≤ 100000 ∧ rowsC (rgV 0 i).length n = some L ∧ it = .seq (L.map (rowD (rngUp 0 i.toNat))) := by
  simp only [evF] at e1
  split at e1
  · rename_i xs st1 h1
    split at h1
    · rename_i i st3 h3
      split at h1
      · rename_i hs
        simp only [Option.some.injEq, Prod.mk.injEq, Rf.Itr.seq.injEq] at h1
        obtain ⟨rfl, rfl⟩ := h1
        rw [Bool.and_eq_true] at hs
        split at e1
        · rename_i j st2 h2
          split at e1
          · rename_i hb
            simp only [Bool.and_eq_true, Bool.not_eq_true'] at hb
            obtain ⟨⟨⟨b1, b2⟩, b3⟩, b4⟩ := hb
            unfold combR at e1
            split at e1
            · rename_i ds e2
              split at e2
              · rename_i L hL
                cases e2
                cases e1
                have hj : 0 ≤ j := by
                  rw [ilt_eq] at b1
                  exact Int.not_lt.mp (of_decide_eq_false b1)
                have b3 := Nat.le_of_ble_eq_true b3
                obtain ⟨n, rfl⟩ : ∃ n : Nat, j = n := ⟨j.toNat, by omega⟩
                have ok := rg_small small0 hs.1 (by rw [Int.sub_zero]; exact Nat.le_of_ble_eq_true hs.2)
                have lr : (rngUp 0 i.toNat).length = (rgV 0 i).length := by
                  have := (rg_rds (F := fun _ => none) i.toNat 0).length
                  rw [← this]
                  simp [rgV]
                exact ⟨i, _, n, L, h3, ok, h2, by simpa using Nat.le_trans b3 (by decide), by rw [← lr]; simpa using hL, rfl⟩
              · cases e2
            · cases e1
          · cases e1
        · cases e1
      · cases h1
    · cases h1
  · cases e1
end
section
variable {X : Cx} {T : List Addr} {cl : Calls} {p pos p2 pos2 p3 pos3 : Pos} {a k tg : Expr} {a' k' : E}
theorem cRows_len {n : Nat} : ∀ {f : Nat} {ix : List Nat} {L : List (List Nat)}, cRows n f ix = some L → L.length ≤ f
  | 0, _, _, h => by cases h
  | f + 1, ix, L, h => by
    simp only [cRows] at h
    split at h
    · cases h; simp
    · split at h
      · rename_i l h2
        cases h
        have := cRows_len h2
        simp
        omega
      · cases h
theorem rowsC_len {n k : Nat} {L : List (List Nat)} (h : rowsC n k = some L) : L.length ≤ 100000 := by
  unfold rowsC at h
  split at h
  · cases h; simp
  · split at h
    · rename_i h2
      split at h
      · cases h; exact cRows_len h2
      · cases h
    · cases h
theorem cmb_rec {v : Value} {Hh : Heap → Prop} {R0 : List Value → Prop} {vs : List V} {n : Nat} {t : Tok} {L : List (List Nat)} {pins : List (Addr × Obj)} {σ : L2.St} {H : Hp} {s : Shared} (hc : X.calm = true) (hz : vs.length ≤ sizeLine) (hn : n ≤ 100000) (I : Inv X pins σ H s) (C : Coll v Hh R0) (h1 : Hh s.heap)
    (hv : ∀ xs, R0 xs → Vals vs xs) (hL : rowsC vs.length n = some L) :
    wpAny (model X.prog X.w) X.A (call (.type "itertools.combinations") [v, .int n t]) (fun v s1 => ∃ c pool us, v = .ref c ∧ Inv X pins σ H s1 ∧ FpOk X pins H c ∧ CmbT c pool us L 0 s1.heap ∧ Vals vs us) X.xe s := by
  refine cmb_call hn C (I.ok.hd hc) h1 fun xs hm h' tk hx k1 k2 g1 g2 => ?_
  have rv := hv xs hx
  have el := rv.length
  refine ⟨by rw [← el]; exact hz, ?_⟩
  have Im : Inv X pins σ H { s with heap := hm } := I.kept (t' := s.toks) k1
  have I2 : Inv X pins σ H { s with heap := h', toks := tk } := Im.kept (t' := tk) k2
  obtain ⟨c1, c2, c3⟩ := rowsC_next hL
  refine ⟨hm.objs.size + 1, hm.objs.size, xs, rfl, I2, Im.fpOk (Nat.le_add_right _ _) (Im.hok.fresh (Nat.le_add_right _ _)), ⟨g2, ?_⟩, rv⟩
  rcases c3 with ⟨h3, rfl⟩ | ⟨h3, h4⟩
  · rw [if_pos (by rw [← el]; exact h3)] at g1
    exact .inl ⟨rfl, rfl, _, _, g1⟩
  · rw [if_neg (by rw [← el]; exact h3)] at g1
    exact .inr (.inl ⟨rfl, _, _, h4, g1⟩)
/-- list(combinations(range(a), k)) -/
theorem pv_ofCmb {box : Bool} (hc : X.calm = true) (hgl : Gl X "list") (hml : X.mg "list" = none) (hg : Gl X "combinations") (hm : X.mg "combinations" = some (.type "itertools.combinations")) (hg2 : Gl X "range") (hm2 : X.mg "range" = none) (pa : plainE a = true) (pk : plainE k = true) (ha : PE X a (tEv T (ev cl a'))) (hk : PE X k (tEv T (ev cl k'))) :
    PE X (.Call (.Name "list" p3) [.Call (.Name "combinations" p) [.Call (.Name "range" p2) [a] [] pos2, k] [] pos] [] pos3) (tEv T (ev cl (.ofIt false box (.combs (.rng1 a') k')))) := by
  refine ⟨fun pins s σ H Q I h => ?_⟩
  obtain ⟨F, ρ, env, st, w, st', r, hE, e1, fin⟩ := h
  simp only [ev] at e1
  split at e1
  · rename_i ds st2 h1
    have e1 : mk box st2 (.fresh ds) = (w, st') := by simpa using e1
    have ew : w = (mk box st2 (.fresh ds)).1 := by rw [e1]
    have es : st' = (mk box st2 (.fresh ds)).2 := by rw [e1]
    subst ew es
    obtain ⟨i, st1, n, L, h3, ok, h2, hn, hL, ei⟩ := combs_ev h1
    simp only [Rf.Itr.seq.injEq] at ei
    subst ei
    obtain ⟨o1, o2, o3, o4, o5⟩ := id ok
    obtain ⟨c1, c2, c3⟩ := rowsC_next hL
    refine Call_ (ld_blt I hgl hml boot_list (PyProof.Rows.callWith_type1 (args_cons (cmb_args hg hm hg2 hm2 pa pk ha hk I r hE h3 h2 fun ra t u v x y s1 H1 F1 ρ1 hr I1 rx sx r1 hw => ?_) (starEach_plain rfl [] X.env)) (starEach_plain rfl [] X.env) rfl))
    cases (show x = .int n from hw)
    obtain ⟨tk, rfl⟩ := rx
    refine thn (cmb_rec hc (by rw [rgV_length, sizeLine_eq]; omega) hn I1 (coll_rng ra (small_one o1 o2 o3 o4) (rangeSize_nat 0 i) o5) hr (vs := rgV 0 i) (fun ys hy => by simpa using vals_rg hy) hL) fun v s2 ⟨c, pool, us, ev, I2, f2, t2, rv⟩ => args_nil ?_
    subst ev
    have rr : ∀ F', RDs F' (rngUp 0 i.toNat) (rgV 0 i) := fun F' => by
      have := rg_rds (F := F') i.toNat 0
      simpa [rgV] using this
    refine call_list_cmb hc rv (by rw [← rv.length]; exact c1) c2 (Nat.le_trans (rowsC_len hL) (by rw [sizeLine_eq]; decide)) (fun j H ys => ∃ F', Step T F1 ρ1 H1 F' ρ1 H ∧ Rl T F' ρ1 st2 H ∧ RDs F' ((L.take j).map (rowD (rngUp 0 i.toNat))) ys) (fun j jx H ys p hj ⟨F', sF, rF, dF⟩ hp => ?_) I2 f2 t2 ⟨F1, Step.refl, r1, rfl⟩ fun H' ys S ⟨F', sF, rF, dF⟩ hS => ?_
    · obtain ⟨F'', s3, r3, d3⟩ := made_tup rF hp (rd_row (rr F') jx)
      refine ⟨F'', sF.trans s3, r3, ?_⟩
      have e4 : L.take (j + 1) = L.take j ++ [jx] := by rw [List.take_add_one, hj]; rfl
      rw [e4, List.map_append]
      exact RDs.append (dF.le s3.le) (RDs.cons d3 rfl)
    · rw [List.take_length] at dF
      exact (fin.step (sx.trans sF)).lst rF dF S hS
  · cases e1
end
end Rf
/-! Rf52: the inner loop of a generator expression of two clauses. -/
namespace Rf
open PySem PySem.Spec PyProof.Rows L2 PySem.W
def gen2 (elt tg iter : Expr) (ifs : List Expr) (tg2 iter2 : Expr) (ifs2 : List Expr) (scope : Scope) (pos : Pos) : Expr := .GeneratorExp elt [⟨tg, iter, ifs, 0⟩, ⟨tg2, iter2, ifs2, 0⟩] scope pos
theorem compTurn_gen21 (elt tg iter : Expr) (ifs : List Expr) (tg2 iter2 : Expr) (ifs2 : List Expr) (scope : Scope) (pos : Pos) (it acc : Value) (env : PySem.Env) :
    compTurn (gen2 elt tg iter ifs tg2 iter2 ifs2 scope pos) 1 it acc env = (do
      standAt iter2.pos
      match ← pyNext it with
      | none => pure (.done .next)
      | some v =>
        letOwnedTupleGo tg2 it v
        assign tg2 env v
        let mut ok := true
        for c in ifs2 do
          if ok then ok ← isTrue c env (eval c env)
        if ok then
          (do let v ← eval elt env; standAt elt.pos; let _ ← yieldOut env v)
        again (.compLoop (gen2 elt tg iter ifs tg2 iter2 ifs2 scope pos) 1 it acc env)) := by rfl
theorem compTurn_gen20 (elt tg iter : Expr) (ifs : List Expr) (tg2 iter2 : Expr) (ifs2 : List Expr) (scope : Scope) (pos : Pos) (it acc : Value) (env : PySem.Env) :
    compTurn (gen2 elt tg iter ifs tg2 iter2 ifs2 scope pos) 0 it acc env = (do
      standAt iter.pos
      match ← pyNext it with
      | none => pure (.done .next)
      | some v =>
        letOwnedTupleGo tg it v
        assign tg env v
        let mut ok := true
        for c in ifs do
          if ok then ok ← isTrue c env (eval c env)
        if ok then
          let x ← eval iter2 env
          standAt iter2.pos
          let x ← foldedSetIterable iter2 env x
          let _ ← runOwn (.compStart (gen2 elt tg iter ifs tg2 iter2 ifs2 scope pos) 1 (← holding [x] (pyIter x)) acc env) env
        again (.compLoop (gen2 elt tg iter ifs tg2 iter2 ifs2 scope pos) 0 it acc env)) := by rfl
/-- X at another place of the run -/
abbrev atA (X : Cx) (A : Around) : Cx := { X with A := A }
section
variable {X : Cx} {A' : Around}
theorem Ok.atA (ok : X.Ok) (h1 : A'.handled = X.A.handled) (h2 : A'.frames = X.A.frames) : (Rf.atA X A').Ok :=
  ⟨ok.mod, ok.kind, ok.glob, ok.blt, ok.above, ok.inj, ok.has, ok.cab, fun h => h1.trans (ok.hd h), h2.trans ok.frames, ok.stk, ok.exf, ok.bs, ok.bsz, ok.noex, ok.exfs, ok.funs, ok.frf⟩
theorem Inv.atA {pins : List (Addr × Obj)} {σ : L2.St} {H : Hp} {s : Shared} (I : L2.Inv X pins σ H s) (h1 : A'.handled = X.A.handled) (h2 : A'.frames = X.A.frames) : L2.Inv (Rf.atA X A') pins σ H s :=
  ⟨Ok.atA I.ok h1 h2, I.os, I.bare, I.base, I.loc, I.cell, I.free, I.freeC, I.pin, I.hok, I.len⟩
theorem Inv.ofA {pins : List (Addr × Obj)} {σ : L2.St} {H : Hp} {s : Shared} (I : L2.Inv (Rf.atA X A') pins σ H s) (ok : X.Ok) : L2.Inv X pins σ H s :=
  ⟨ok, I.os, I.bare, I.base, I.loc, I.cell, I.free, I.freeC, I.pin, I.hok, I.len⟩
end
section
variable {Y : Cx} {A A1 : Around}
theorem gen_segI {elt tg iter : Expr} {ifs : List Expr} {tg2 iter2 : Expr} {ifs2 : List Expr} {scope : Scope} {pos : Pos} {g : TG} {tt : TT} {te : TE} {σ : L2.St} {vs : List Nat} {it : Addr} {fp : List Addr} {tn : Nat → Heap → Prop} {J : It} {W : Nat → Nat → Hp → Prop} {Q : VK} {stop : Bool} {gp gp' : List (Addr × Obj)} {fr : Frame} {Out : Nat → Hp → Prop}
    {kk : Result → Sem PySem.Fin} {hh : Option Value} {gg : Bool} {ll : List Value} {oc : Code} {op : Pos}
    (hc : Y.calm = true) (hx : Y.xe = fun _ _ => False) (hpn : Y.pn = []) (okY : Y.Ok) (hfr : fr = .ret kk hh gg ll oc op []) (hgg : gg = false)
    (eA : A1 = A.over (.compLoop (gen2 elt tg iter ifs tg2 iter2 ifs2 scope pos) 1 (.ref it) .none Y.env) [fr]) (hco : Y.env.scope.isCoroutine = false) (T : Turn Y.prog Y.w Y.K tg2 J fp it tn)
    (pg : PG (atA Y A1) tg2 g) (pt : PTs (atA Y A1) ifs2 tt) (pe : PE (atA Y A1) elt te)
    (turn : ∀ i m H, W i m H → (J.stop i H ∧ Out m H) ∨ (J.go i H ∧ ∃ Nx : Hp → Prop, (∀ H', Nx H' → ∃ m', m' < m ∧ W (i + 1) m' H') ∧ ∀ x H', J.yld i H x H' → g x (wipe σ vs) H' fun σ2 H2 => wipe σ2 vs = wipe σ vs ∧ tt σ2 H2 fun b H3 =>
      if b = true then te σ2 H3 fun y H4 => ∃ k, y = .bl k ∧ ((k = stop ∧ Q (.bl stop) H4) ∨ (k = !stop ∧ Nx H4)) else Nx H3))
    (done : ∀ (n m : Nat) (s₀ s : Shared) (H : Hp), m < n → L2.Inv (atA Y A1) (gp ++ gp') (wipe σ vs) H s → Out m H → Seg (model Y.prog Y.w) A (QuR Y gp stop Q) (QuY Y gp stop Q) n s₀ oc (kk (.ok .next)) [] s) :
    ∀ (n m i : Nat) (s₀ s : Shared) (H : Hp), m < n → L2.Inv (atA Y A1) (gp ++ gp') (wipe σ vs) H s → tn i s.heap → (∀ b ∈ fp, FpOk (atA Y A1) (gp ++ gp') H b) → W i m H →
      Seg (model Y.prog Y.w) A (QuR Y gp stop Q) (QuY Y gp stop Q) n s₀ (.compLoop (gen2 elt tg iter ifs tg2 iter2 ifs2 scope pos) 1 (.ref it) .none Y.env)
        ((model Y.prog Y.w).den (.compLoop (gen2 elt tg iter ifs tg2 iter2 ifs2 scope pos) 1 (.ref it) .none Y.env)) [fr] s := by
  intro n m
  induction m using Nat.strongRecOn generalizing n with
  | ind m ih =>
    intro i s₀ s5 H5 hmn I5 st5 n5 w5
    show Seg _ A _ _ _ s₀ _ ((compTurn (gen2 elt tg iter ifs tg2 iter2 ifs2 scope pos) 1 (.ref it) .none Y.env).onRaise (fun x => do noteFrame x Y.env; theTreesLotGoes x)) [fr] s5
    rw [compTurn_gen21, Sem.onRaise_eq_wrap]
    refine seg_bind_wrap (wpAny_standAt ?_)
    rcases turn i m H5 w5 with ⟨stp, qq⟩ | ⟨go, Nx, hNx, step⟩
    · refine seg_bind_wrap ?_
      rw [← eA]
      refine thnF (T.done (atA Y A1) rfl rfl rfl hc i _ s5 _ H5 (fun _ _ => False) I5 n5 st5 stp) fun r s6 ⟨hr, I6⟩ => ?_
      subst hr
      subst hfr
      exact seg_leaf (.ok .next) (done n m s₀ s6 H5 hmn I6 qq)
    · refine seg_bind_wrap ?_
      rw [← eA]
      refine thnF (T.item (atA Y A1) rfl rfl rfl hc i _ s5 _ H5 (fun _ _ => False) I5 n5 st5 go) fun r s6 ⟨u, hr, h6⟩ => ?_
      subst hr
      refine seg_bind_wrap ?_
      rw [← eA]
      refine thnF h6 fun _ s7 ⟨x, H7, I7, r7, y7, st7, n7⟩ => ?_
      have f7 : ∀ b ∈ fp, FpOk (atA Y A1) (gp ++ gp') H7 b := fun b hb => ⟨n7 b hb, (n5 b hb).2⟩
      have pinned := I7.pinned f7 (T.obj _ _ st7)
      refine seg_bind_wrap ?_
      rw [← eA]
      have pgr := pg.run _ s7 _ H7 x u _ pinned r7 (step x H7 y7)
      have hx' : (atA Y A1).xe = fun _ _ => False := hx
      rw [hx'] at pgr
      refine thnF pgr fun _ s8 ⟨σ8, H8, I8, hw8, q8⟩ => ?_
      refine seg_bind_wrap ?_
      rw [← eA]
      have ptr := pt.run _ s8 σ8 H8 _ I8 q8
      rw [hx'] at ptr
      refine thnF ptr fun b s9 ⟨H9, I9, q9⟩ => ?_
      have again : ∀ {s' : Shared} {H' : Hp} (n' : Nat) (s0' : Shared), n = n' ∨ n = n' + 1 → L2.Inv (atA Y A1) ((gp ++ gp') ++ pinsAt fp s7.heap) σ8 H' s' → Nx H' → Seg (model Y.prog Y.w) A (QuR Y gp stop Q) (QuY Y gp stop Q) n' s0' (.compLoop (gen2 elt tg iter ifs tg2 iter2 ifs2 scope pos) 1 (.ref it) .none Y.env)
          ((model Y.prog Y.w).den (.compLoop (gen2 elt tg iter ifs tg2 iter2 ifs2 scope pos) 1 (.ref it) .none Y.env)) [fr] s' := fun {s' H'} n' s0' hn' J nx => by
        obtain ⟨m', hm, w'⟩ := hNx H' nx
        have stood : ∀ b ∈ fp, ∀ o, s7.heap.get? b = some o → s'.heap.get? b = some o ∧ H' b = none := fun b hb o e => by
          obtain ⟨z1, z2, _⟩ := J.pin (b, o) (List.mem_append_right _ (List.mem_append_right _ (mem_pinsAt hb e)))
          exact ⟨z1, z2⟩
        refine ih m' hm n' (i + 1) s0' s' H' (by omega) ((J.unpinned (pins := gp ++ gp')).weak (by rw [← hw8, wipe_length]) (fun j v e => ?_)) (T.keep _ _ _ st7 fun b hb o e => (stood b hb o e).1) (fun b hb => ⟨?_, (n5 b hb).2⟩) w'
        · rw [← hw8] at e
          exact (wipe_some e).1
        · obtain ⟨o, e, _⟩ := T.obj _ _ st7 b hb
          exact (stood b hb o e).2
      cases b with
      | false =>
        rw [if_neg (by decide)] at q9
        simp only [Bool.false_eq_true, if_false]
        exact seg_again rfl (again n s₀ (.inl rfl) I9 q9)
      | true =>
        rw [if_pos rfl] at q9
        simp only [if_true]
        have hy : ∀ v, yieldOut Y.env v = yieldValue v := fun v => by simp only [yieldOut, hco, Bool.false_eq_true, if_false]
        simp only [hy]
        rw [Sem.bind_eq_wrap', Sem.bind_eq_wrap', Sem.wrap_wrap, Sem.wrap_wrap]
        refine seg_wrap ?_
        rw [← eA]
        have per := pe.run _ s9 σ8 H9 _ I9 q9
        rw [hx'] at per
        refine thnF per fun yv s10 ⟨yy, H10, I10, r10, k, ek, q10⟩ => ?_
        subst ek
        cases (show yv = Value.bool k from r10)
        cases n with
        | zero => exact absurd hmn (Nat.not_lt_zero m)
        | succ n' =>
          refine seg_at (seg_yield (by rw [hfr]; rfl) rfl (by rw [hfr, hgg]; rfl) ⟨k, H10, rfl, ⟨σ8, Inv.ofA ((I10.unpinned (pins := gp ++ gp')).unpinned (pins := gp)) okY⟩, ?_⟩)
          rcases q10 with ⟨rfl, q10⟩ | ⟨rfl, q10⟩
          · exact .inl ⟨rfl, q10⟩
          · exact .inr ⟨rfl, fun g' hg' => seg_again rfl (again n' _ (.inr rfl) (Inv.withGens I10 hg') q10)⟩
theorem gen_startI {P : Program} {w : World} {elt tg iter : Expr} {ifs : List Expr} {tg2 iter2 : Expr} {ifs2 : List Expr} {scope : Scope} {pos : Pos} {cenv : PySem.Env} {it : Addr} {s₀ s : Shared} {R : GenEnd} {Yp : Protocol} {n : Nat} {fs : List Frame}
    (self : ∀ (A : Around) (Q : Value → Shared → Prop) (E : Value → Shared → Prop), Q (.ref it) s → wpAny (model P w) A (pyIter (.ref it)) Q E s)
    (loop : Seg (model P w) A R Yp n s₀ (.compLoop (gen2 elt tg iter ifs tg2 iter2 ifs2 scope pos) 1 (.ref it) .none cenv) ((model P w).den (.compLoop (gen2 elt tg iter ifs tg2 iter2 ifs2 scope pos) 1 (.ref it) .none cenv)) fs s) :
    Seg (model P w) A R Yp n s₀ (.compStart (gen2 elt tg iter ifs tg2 iter2 ifs2 scope pos) 1 (.ref it) .none cenv) ((model P w).den (.compStart (gen2 elt tg iter ifs tg2 iter2 ifs2 scope pos) 1 (.ref it) .none cenv)) fs s := by
  show Seg _ A _ _ _ s₀ _ ((compStart (gen2 elt tg iter ifs tg2 iter2 ifs2 scope pos) 1 (.ref it) .none cenv).onRaise (fun x => do noteFrame x cenv; standAt theWindowsPlace)) fs s
  unfold compStart
  rw [Sem.onRaise_eq_wrap]
  show Seg _ A _ _ _ s₀ _ ((ask >>= _).wrap _ _ _ _) fs s
  refine seg_bind_wrap (wpAny_askSetting ?_)
  split
  · exact seg_again rfl loop
  · first
      | exact seg_bind_wrap (wpAny_rule (seg_bind_wrap (wpAny_standAt (seg_bind_wrap (self _ _ _ (seg_again rfl loop))))))
      | (refine seg_bind_wrap (wpAny_rule ?_); show Seg _ A _ _ _ s₀ _ ((standAt iter2.pos >>= _).wrap _ _ _ _) fs s; exact seg_bind_wrap (wpAny_standAt (seg_bind_wrap (self _ _ _ (seg_again rfl loop)))))
theorem gen_start2 {P : Program} {w : World} {elt tg iter : Expr} {ifs : List Expr} {tg2 iter2 : Expr} {ifs2 : List Expr} {scope : Scope} {pos : Pos} {cenv : PySem.Env} {it : Addr} {s₀ s : Shared} {R : GenEnd} {Yp : Protocol} {n : Nat}
    (self : ∀ (A : Around) (Q : Value → Shared → Prop) (E : Value → Shared → Prop), Q (.ref it) s → wpAny (model P w) A (pyIter (.ref it)) Q E s)
    (loop : Seg (model P w) A R Yp n s₀ (.compLoop (gen2 elt tg iter ifs tg2 iter2 ifs2 scope pos) 0 (.ref it) .none cenv) ((model P w).den (.compLoop (gen2 elt tg iter ifs tg2 iter2 ifs2 scope pos) 0 (.ref it) .none cenv)) [] s) :
    Seg (model P w) A R Yp n s₀ (.compStart (gen2 elt tg iter ifs tg2 iter2 ifs2 scope pos) 0 (.ref it) .none cenv) ((model P w).den (.compStart (gen2 elt tg iter ifs tg2 iter2 ifs2 scope pos) 0 (.ref it) .none cenv)) [] s := by
  show Seg _ A _ _ _ s₀ _ ((compStart (gen2 elt tg iter ifs tg2 iter2 ifs2 scope pos) 0 (.ref it) .none cenv).onRaise (leaving cenv)) [] s
  unfold compStart
  rw [Sem.onRaise_eq_wrap]
  show Seg _ A _ _ _ s₀ _ ((ask >>= _).wrap _ _ _ _) [] s
  refine seg_bind_wrap (wpAny_askSetting ?_)
  split
  · exact seg_again rfl loop
  · first
      | exact seg_bind_wrap (wpAny_rule (seg_bind_wrap (wpAny_standAt (seg_bind_wrap (self _ _ _ (seg_again rfl loop))))))
      | (refine seg_bind_wrap (wpAny_rule ?_); show Seg _ A _ _ _ s₀ _ ((standAt iter.pos >>= _).wrap _ _ _ _) [] s; exact seg_bind_wrap (wpAny_standAt (seg_bind_wrap (self _ _ _ (seg_again rfl loop)))))
end
end Rf
/-! Rf53: the outer loop of a generator expression of two clauses. -/
namespace Rf
open PySem PySem.Spec PyProof.Rows L2 PySem.W
/-- what all, any read of a generator expression of two clauses -/
def Turns2 (stop : Bool) (J : It) (g : TG) (tt : TT) (wi2 : TI) (g2 : TG) (tt2 : TT) (te : TE) (vs vs2 : List Nat) (σ : L2.St) (Q : VK) (W : Nat → Nat → Hp → Prop) : Prop := ∀ i m H, W i m H →
  (J.stop i H ∧ Q (.bl (!stop)) H) ∨ (J.go i H ∧ ∀ x H', J.yld i H x H' → g x (wipe σ vs) H' fun σ2 H2 => wipe σ2 vs = wipe σ vs ∧ tt σ2 H2 fun b H3 =>
    if b = true then wi2 σ2 H3 fun J2 H4 => ∃ W2 : Nat → Nat → Hp → Prop, (∃ m2, m2 < m ∧ W2 0 m2 H4) ∧ ∀ j m2 H, W2 j m2 H → (J2.stop j H ∧ ∃ m', m' < m2 ∧ m' < m ∧ W (i + 1) m' H) ∨ (J2.go j H ∧ ∃ Nx : Hp → Prop, (∀ H', Nx H' → ∃ m', m' < m2 ∧ W2 (j + 1) m' H') ∧
      ∀ x H', J2.yld j H x H' → g2 x (wipe σ2 vs2) H' fun σ3 H5 => wipe σ3 vs2 = wipe σ2 vs2 ∧ tt2 σ3 H5 fun b H6 => if b = true then te σ3 H6 fun y H7 => ∃ k, y = .bl k ∧ ((k = stop ∧ Q (.bl stop) H7) ∨ (k = !stop ∧ Nx H7)) else Nx H6)
    else ∃ m', m' < m ∧ W (i + 1) m' H3)
theorem inner_around {A : Around} {elt tg iter : Expr} {ifs : List Expr} {tg2 iter2 : Expr} {ifs2 : List Expr} {scope : Scope} {pos p : Pos} {it it2 : Addr} {cenv : PySem.Env} {kk : Result → Sem PySem.Fin} {gg : Bool} {ll : List Value} :
    (A.over (.compLoop (gen2 elt tg iter ifs tg2 iter2 ifs2 scope pos) 1 (.ref it2) .none cenv) [.ret kk none gg ll (.compLoop (gen2 elt tg iter ifs tg2 iter2 ifs2 scope pos) 0 (.ref it) .none cenv) p []]).handled = (A.over (.compLoop (gen2 elt tg iter ifs tg2 iter2 ifs2 scope pos) 0 (.ref it) .none cenv) []).handled ∧
    (A.over (.compLoop (gen2 elt tg iter ifs tg2 iter2 ifs2 scope pos) 1 (.ref it2) .none cenv) [.ret kk none gg ll (.compLoop (gen2 elt tg iter ifs tg2 iter2 ifs2 scope pos) 0 (.ref it) .none cenv) p []]).depth = (A.over (.compLoop (gen2 elt tg iter ifs tg2 iter2 ifs2 scope pos) 0 (.ref it) .none cenv) []).depth ∧
    (A.over (.compLoop (gen2 elt tg iter ifs tg2 iter2 ifs2 scope pos) 1 (.ref it2) .none cenv) [.ret kk none gg ll (.compLoop (gen2 elt tg iter ifs tg2 iter2 ifs2 scope pos) 0 (.ref it) .none cenv) p []]).units = (A.over (.compLoop (gen2 elt tg iter ifs tg2 iter2 ifs2 scope pos) 0 (.ref it) .none cenv) []).units ∧
    (A.over (.compLoop (gen2 elt tg iter ifs tg2 iter2 ifs2 scope pos) 1 (.ref it2) .none cenv) [.ret kk none gg ll (.compLoop (gen2 elt tg iter ifs tg2 iter2 ifs2 scope pos) 0 (.ref it) .none cenv) p []]).frames = (A.over (.compLoop (gen2 elt tg iter ifs tg2 iter2 ifs2 scope pos) 0 (.ref it) .none cenv) []).frames := by
  refine ⟨rfl, ?_, ?_, ?_⟩
  · show A.depth + 1 + 0 = A.depth + 0 + 1
    rfl
  · show A.units + 3 + 0 = A.units + 0 + 3
    rfl
  · cases h : A.frames <;> rfl
theorem wipe_keep {σ : L2.St} {i : Nat} {v : V} {vs vs2 : List Nat} (h : ∀ b ∈ vs2, b ∈ vs) (e : (wipe σ vs)[i]? = some (some v)) : (wipe σ vs2)[i]? = some (some v) := by
  obtain ⟨h1, h2⟩ := wipe_some e
  rw [wipe_out fun z => h2 (h i z)]
  exact h1
theorem folded_plain {it : Expr} (h : plainE it = true) (env : PySem.Env) (v : Value) : foldedSetIterable it env v = pure v := by
  cases it <;> first | rfl | cases h
section
variable {Y : Cx} {A : Around}
theorem gen_seg2 {elt tg iter : Expr} {ifs : List Expr} {tg2 iter2 : Expr} {ifs2 : List Expr} {scope : Scope} {pos : Pos} {g : TG} {tt : TT} {wi2 : TI} {g2 : TG} {tt2 : TT} {te : TE} {σ : L2.St} {vs vs2 : List Nat} {it : Addr} {fp : List Addr} {tn : Nat → Heap → Prop} {J : It} {W : Nat → Nat → Hp → Prop} {Q : VK} {stop : Bool} {gp : List (Addr × Obj)}
    (hc : Y.calm = true) (hx : Y.xe = fun _ _ => False) (hpn : Y.pn = []) (hgp : ∀ p ∈ gp, ∀ b ∈ fp, p.1 ≠ b) (hex : Y.ex = fp) (eA : Y.A = A.over (.compLoop (gen2 elt tg iter ifs tg2 iter2 ifs2 scope pos) 0 (.ref it) .none Y.env) []) (hco : Y.env.scope.isCoroutine = false) (T : Turn Y.prog Y.w Y.K tg J fp it tn)
    (hpl : plainE iter2 = true) (hvs : ∀ b ∈ vs2, b ∈ vs)
    (pg : PG Y tg g) (pt : PTs Y ifs tt) (pi2 : PI Y tg2 iter2 wi2)
    (pg2 : ∀ A1, A1.handled = Y.A.handled → A1.depth = Y.A.depth → A1.units = Y.A.units → PG (atA Y A1) tg2 g2) (pt2 : ∀ A1, A1.handled = Y.A.handled → A1.depth = Y.A.depth → A1.units = Y.A.units → PTs (atA Y A1) ifs2 tt2) (pe : ∀ A1, A1.handled = Y.A.handled → A1.depth = Y.A.depth → A1.units = Y.A.units → PE (atA Y A1) elt te)
    (turn : Turns2 stop J g tt wi2 g2 tt2 te vs vs2 σ Q W) :
    ∀ (n m i : Nat) (s₀ s : Shared) (H : Hp), m < n → L2.Inv Y gp (wipe σ vs) H s → tn i s.heap → (∀ b ∈ fp, H b = none) → W i m H →
      Seg (model Y.prog Y.w) A (QuR Y gp stop Q) (QuY Y gp stop Q) n s₀ (.compLoop (gen2 elt tg iter ifs tg2 iter2 ifs2 scope pos) 0 (.ref it) .none Y.env)
        ((model Y.prog Y.w).den (.compLoop (gen2 elt tg iter ifs tg2 iter2 ifs2 scope pos) 0 (.ref it) .none Y.env)) [] s := by
  have okFp : ∀ {σ' : L2.St} {H' : Hp} {s' : Shared}, L2.Inv Y gp σ' H' s' → (∀ b ∈ fp, H' b = none) → ∀ b ∈ fp, FpOk Y gp H' b := fun {σ' H' s'} J hn b hb =>
    ⟨hn b hb, (J.ok.exf b (by rw [hex]; exact hb)).1, J.ok.exfs b (by rw [hex]; exact hb), .inl (by rw [hex]; exact hb), fun x c e => (J.ok.exf b (by rw [hex]; exact hb)).2 x c e, fun q hq => hgp q (by rw [hpn] at hq; simpa using hq) b hb⟩
  intro n m
  induction m using Nat.strongRecOn generalizing n with
  | ind m ih =>
    intro i s₀ s5 H5 hmn I5 st5 n5 w5
    show Seg _ A _ _ _ s₀ _ ((compTurn (gen2 elt tg iter ifs tg2 iter2 ifs2 scope pos) 0 (.ref it) .none Y.env).onRaise (leaving Y.env)) [] s5
    rw [compTurn_gen20, Sem.onRaise_eq_wrap]
    refine seg_bind_wrap (wpAny_standAt ?_)
    rcases turn i m H5 w5 with ⟨stp, qq⟩ | ⟨go, step⟩
    · refine seg_bind_wrap ?_
      rw [← eA]
      refine thnF (T.done Y rfl rfl rfl hc i gp s5 _ H5 (fun _ _ => False) I5 (okFp I5 n5) st5 stp) fun r s6 ⟨hr, I6⟩ => ?_
      subst hr
      exact seg_end (.ok .next) ⟨rfl, H5, _, I6, qq⟩
    · refine seg_bind_wrap ?_
      rw [← eA]
      refine thnF (T.item Y rfl rfl rfl hc i gp s5 _ H5 (fun _ _ => False) I5 (okFp I5 n5) st5 go) fun r s6 ⟨u, hr, h6⟩ => ?_
      subst hr
      refine seg_bind_wrap ?_
      rw [← eA]
      refine thnF h6 fun _ s7 ⟨x, H7, I7, r7, y7, st7, n7⟩ => ?_
      have pinned := I7.pinned (okFp I7 n7) (T.obj _ _ st7)
      refine seg_bind_wrap ?_
      rw [← eA]
      have pgr := pg.run _ s7 _ H7 x u _ pinned r7 (step x H7 y7)
      rw [hx] at pgr
      refine thnF pgr fun _ s8 ⟨σ8, H8, I8, hw8, q8⟩ => ?_
      refine seg_bind_wrap ?_
      rw [← eA]
      have ptr := pt.run _ s8 σ8 H8 _ I8 q8
      rw [hx] at ptr
      refine thnF ptr fun b s9 ⟨H9, I9, q9⟩ => ?_
      have again : ∀ {s' : Shared} {H' : Hp} {σ' : L2.St} (n' m' : Nat) (s0' : Shared), m' < m → m' < n' → L2.Inv Y (gp ++ pinsAt fp s7.heap) σ' H' s' → σ'.length = σ8.length → (∀ (i : Nat) v, (wipe σ8 vs)[i]? = some (some v) → σ'[i]? = some (some v)) → W (i + 1) m' H' → Seg (model Y.prog Y.w) A (QuR Y gp stop Q) (QuY Y gp stop Q) n' s0' (.compLoop (gen2 elt tg iter ifs tg2 iter2 ifs2 scope pos) 0 (.ref it) .none Y.env)
          ((model Y.prog Y.w).den (.compLoop (gen2 elt tg iter ifs tg2 iter2 ifs2 scope pos) 0 (.ref it) .none Y.env)) [] s' := fun {s' H' σ'} n' m' s0' hm hn' J hl hσ w' => by
        have stood : ∀ b ∈ fp, ∀ o, s7.heap.get? b = some o → s'.heap.get? b = some o ∧ H' b = none := fun b hb o e => by
          obtain ⟨z1, z2, _⟩ := J.pin (b, o) (List.mem_append_right _ (List.mem_append_right _ (mem_pinsAt hb e)))
          exact ⟨z1, z2⟩
        refine ih m' hm n' (i + 1) s0' s' H' hn' ((J.unpinned (pins := gp)).weak (by rw [← hw8, wipe_length, hl]) (fun j v e => ?_)) (T.keep _ _ _ st7 fun b hb o e => (stood b hb o e).1) (fun b hb => ?_) w'
        · rw [← hw8] at e
          exact hσ j v e
        · obtain ⟨o, e, _⟩ := T.obj _ _ st7 b hb
          exact (stood b hb o e).2
      cases b with
      | false =>
        rw [if_neg (by decide)] at q9
        simp only [Bool.false_eq_true, if_false]
        obtain ⟨m', hm, w'⟩ := q9
        exact seg_again rfl (again n m' s₀ hm (by omega) I9 rfl (fun j v e => (wipe_some e).1) w')
      | true =>
        rw [if_pos rfl] at q9
        simp only [if_true]
        have pir := pi2.run _ s9 σ8 H9 _ I9 q9
        rw [hx] at pir
        refine seg_bind_wrap ?_
        rw [← eA]
        refine thnF pir fun xv s10 h10 => ?_
        refine seg_bind_wrap (wpAny_standAt ?_)
        rw [folded_plain hpl]
        refine seg_bind_wrap (wpAny_pure ?_)
        refine seg_bind_wrap ?_
        rw [← eA]
        refine wpAny_holding (thnF h10 fun itv s11 ⟨it2, fp2, tn2, J2, H11, ei, I11, T2, st11, f11, W2, ⟨m2, hm2, w2⟩, turn2⟩ => ?_)
        subst ei
        rw [Sem.bind_eq_wrap', Sem.wrap_wrap]
        unfold runOwn
        rw [Sem.onRaise_eq_wrap, Sem.wrap_wrap]
        refine seg_call fun p => ?_
        refine gen_startI (fun A Q E q => T2.self A 0 s11 Q E st11 q) ?_
        refine gen_segI (Y := Y) (gp := gp) (gp' := pinsAt fp s7.heap) (σ := σ8) (vs := vs2) (g := g2) (tt := tt2) (te := te) (T := T2) (W := W2) (Out := fun m2 H => ∃ m', m' < m2 ∧ m' < m ∧ W (i + 1) m' H) hc hx hpn I5.ok rfl rfl rfl hco (pg2 _ (by rw [eA]; exact inner_around.1) (by rw [eA]; exact inner_around.2.1) (by rw [eA]; exact inner_around.2.2.1)) (pt2 _ (by rw [eA]; exact inner_around.1) (by rw [eA]; exact inner_around.2.1) (by rw [eA]; exact inner_around.2.2.1)) (pe _ (by rw [eA]; exact inner_around.1) (by rw [eA]; exact inner_around.2.1) (by rw [eA]; exact inner_around.2.2.1))
          turn2 (fun n' m' s0' s' H' hmn' I' ⟨m3, hm3, hm4, w3⟩ => ?_) n m2 0 s₀ s11 H11 (by omega) ((Inv.atA I11 (by rw [eA]; exact inner_around.1) (by rw [eA]; exact inner_around.2.2.2)).weak (wipe_length _ _) fun j v e => (wipe_some e).1) st11 f11 w2
        exact seg_again rfl (again n' m3 s0' hm4 (by omega) (Inv.ofA I' I5.ok) (wipe_length _ _) (fun j v e => wipe_keep hvs e) w3)
end
end Rf
/-! Rf54: a generator expression of two clauses is made. -/
namespace Rf
open PySem PySem.Spec PyProof.Rows L2 PySem.W GenW
theorem eval_gen2 (elt target iter : Expr) (ifs : List Expr) (tg2 iter2 : Expr) (ifs2 : List Expr) (scope : Scope) (pos : Pos) (env : PySem.Env) (hco : scope.isCoroutine = false) :
    eval (gen2 elt target iter ifs tg2 iter2 ifs2 scope pos) env = (do
      let x ← eval iter env
      standAt iter.pos
      let x ← genFold iter env x
      let it ← holding [x] (pyIter x)
      enterFrame
      let cl ← closureFor scope env
      let code ← genexprCode env pos (env.qual ++ "<genexpr>") scope
      let bi ← builtinsFor env.globals env.builtins
      let cenv ← newFunctionEnv scope env.globals cl [(".0", it)] (env.qual ++ "<genexpr>.") none code none bi
      newGenerator (.compStart (gen2 elt target iter ifs tg2 iter2 ifs2 scope pos) 0 it .none cenv) "<genexpr>" (env.qual ++ "<genexpr>")) := by
  unfold gen2
  rw [arm_eval_GeneratorExp]
  simp only [hco, Bool.false_eq_true, if_false]
  cases iter <;> rfl
section
variable {M : Model} {A : Around} {E : Value → Shared → Prop} {s : Shared}
theorem wpAny_gen2_make {env : PySem.Env} {elt target iter : Expr} {ifs : List Expr} {tg2 iter2 : Expr} {ifs2 : List Expr} {scope : Scope} {cl : List (Str × Addr)} {pos : Pos} {Q : Value → Shared → Prop}
    (hco : scope.isCoroutine = false) (hclos : closureFor scope env = pure cl) (hcell : ∀ y ∈ scope.names, y.2 ≠ .cell) (h0 : scope.names.lookup (".0" : Str) = some NameKind.local) (hkind : scope.kind = .function)
    (hroom : A.depth < recursionLimit)
    (h : wpAny M A (eval iter env) (fun xv s₁ => wpAny M A (pyIter xv) (fun it s₂ => s₂.heap.NoLimit ∧
      wpAny M A (genexprCode env pos (env.qual ++ "<genexpr>") scope) (fun code s₃ => wpAny M A (builtinsFor env.globals env.builtins) (fun bi s₄ =>
        ∀ h', h'.Ns s₄.heap.objs.size (fun y => if y = ".0" then some it else none) → Heap.SameBut s₄.heap.objs.size (s₄.heap.push { cls := .type "frame", data := .dict #[] }) h' →
          Q (.ref h'.objs.size) { s₄ with
            gens := s₄.gens.push (.fresh (.compStart (gen2 elt target iter ifs tg2 iter2 ifs2 scope pos) 0 it .none (genEnv scope cl s₄.heap.objs.size code bi env))),
            toks := s₄.toks + 1 + 1 + 1,
            heap := h'.push { cls := .type "generator", data := .fields #[.int s₄.gens.size 0, .str "<genexpr>" (s₄.toks + 1), .str (env.qual ++ "<genexpr>") (s₄.toks + 1 + 1)] } }) E s₃) E s₂) E s₁) E s)
    (hs : ∀ x, genFold iter env x = pure x) :
    wpAny M A (eval (gen2 elt target iter ifs tg2 iter2 ifs2 scope pos) env) Q E s := by
  rw [eval_gen2 _ _ _ _ _ _ _ _ _ _ hco, hclos]
  refine wpAny_bind (wpAny_mono h (fun xv s₁ h₁ => ?_) fun _ _ e => e)
  refine wpAny_bind (wpAny_standAt ?_)
  refine wpAny_bind (wpAny_of_eq (hs xv) ?_)
  refine wpAny_bind (wpAny_holding (wpAny_mono h₁ (fun it s₂ h₂ => ?_) fun _ _ e => e))
  refine wpAny_bind (wpAny_enterFrame h₂.1 hroom ?_)
  refine wpAny_bind (wpAny_pure ?_)
  refine wpAny_bind (wpAny_mono h₂.2 (fun code s₃ h₃ => ?_) fun _ _ e => e)
  refine wpAny_bind (wpAny_mono h₃ (fun bi s₄ h₄ => ?_) fun _ _ e => e)
  have hbinds : ∀ y ∈ ([((".0" : Str), it)] : List (Str × Value)), scope.names.lookup y.1 = some NameKind.local := by
    intro y hy
    rcases List.mem_cons.mp hy with rfl | hy
    · exact h0
    · cases hy
  refine wpAny_bind (wpAny_newFunctionEnv hcell hbinds (fun h' hn' hs' => ?_) hkind)
  have e : (fun y : Str => ([((".0" : Str), it)] : List (Str × Value)).reverse.lookup y) = fun y : Str => if y = (".0" : Str) then some it else none := by
    funext y
    by_cases hy : y = ".0"
    · subst hy; simp
    · have : (y == (".0" : Str)) = false := by simpa using hy
      simp [List.lookup, this, hy]
  rw [e] at hn'
  simp only [newGenerator, newFields]
  refine wpAny_bind (wpAny_newGen (wpAny_bind (wpAny_mkText (wpAny_bind (wpAny_mkText (wpAny_newObj_type ?_ (by size_fits)))))))
  exact h₄ h' hn' hs'
end
section
variable {X : Cx} {pins : List (Addr × Obj)} {σ : L2.St} {H : Hp} {s : Shared}
theorem gen_make2 {c P : Addr} {elt tg iter : Expr} {ifs : List Expr} {tg2 iter2 : Expr} {ifs2 : List Expr} {gpos : Pos} {scope : Scope} {own : List (Str × Nat)} {wi : TI} {R : It → Hp → Prop} {Q' : Value → Shared → Prop}
    (hd : X.A.depth < recursionLimit) (TB : GxR.TabB X.base X.mg c P) (hcode : X.env.code = .ref c) (hco : scope.isCoroutine = false) (nocell : ∀ y ∈ scope.names, y.2 ≠ .cell) (h0 : scope.names.lookup (".0" : Str) = some NameKind.local) (ok : BlkOk X.N X.env.scope scope own)
    (hi : PI X tg iter wi) (hs : ∀ v, genFold iter X.env v = pure v) (I : Inv X pins σ H s) (h : wi σ H fun J H1 => GxR.TabG H1 P ∧ R J H1)
    (hQ : ∀ J H1 H2 it fp tn code s4 h' n1 n2 tk, R J H1 → GxR.Tabbed P H1 H2 → Turn X.prog X.w X.K tg J fp it tn → Made X pins σ H2 scope fp tn code s4 it h' →
      Q' (.ref h'.objs.size) { s4 with gens := s4.gens.push (.fresh (.compStart (gen2 elt tg iter ifs tg2 iter2 ifs2 scope gpos) 0 (.ref it) .none (genEnv scope (cloFrom X.env.cells scope.names []) s4.heap.objs.size code builtinsNs X.env))), toks := tk, heap := h'.push (genO s4.gens.size n1 n2) }) :
    wpAny (model X.prog X.w) X.A (eval (gen2 elt tg iter ifs tg2 iter2 ifs2 scope gpos) X.env) Q' X.xe s := by
  refine wpAny_gen2_make hco (closure_ok fun y hy e => (ok.free y hy e).elim (fun k => I.ok.has _ (.inl k)) fun k => I.ok.has _ (.inr k)) nocell h0 ok.kind hd ?_ hs
  refine thn (hi.run pins s σ H _ I h) fun xv s1 hx => thn hx fun itv s2 ⟨it, fp, tn, J, H1, e, I2, T, st2, f2, ⟨ps, hP, htr⟩, q⟩ => ?_
  subst e
  refine ⟨I2.nolimit, ?_⟩
  have hPs : s2.heap.get? P = some { cls := .none, data := .fields ps } := I2.hok P _ hP
  have cd : PySem.W.CodeHd s2.heap c P := TB.code.keeps fun b u e => I2.bk b u e
  have cont : ∀ (code : Value) (h3 : Heap) (tk : Nat) (ps' : Array Value), Heap.ExtBut P s2.heap h3 → s2.heap.objs.size ≤ h3.objs.size → h3.get? P = some { cls := .none, data := .fields ps' } → (∃ more, ps' = ps ++ more) → TriplesOk ps'.toList →
      wpAny (model X.prog X.w) X.A (builtinsFor X.env.globals X.env.builtins) (fun bi s₄ =>
        ∀ h', h'.Ns s₄.heap.objs.size (fun y => if y = (".0" : Str) then some (.ref it) else none) → Heap.SameBut s₄.heap.objs.size (s₄.heap.push { cls := .type "frame", data := .dict #[] }) h' →
          Q' (.ref h'.objs.size) { s₄ with
            gens := s₄.gens.push (.fresh (.compStart (gen2 elt tg iter ifs tg2 iter2 ifs2 scope gpos) 0 (.ref it) .none (genEnv scope (cloFrom X.env.cells scope.names []) s₄.heap.objs.size code bi X.env))),
            toks := s₄.toks + 1 + 1 + 1,
            heap := h'.push { cls := .type "generator", data := .fields #[.int s₄.gens.size 0, .str "<genexpr>" (s₄.toks + 1), .str (X.env.qual ++ "<genexpr>") (s₄.toks + 1 + 1)] } }) X.xe { s2 with heap := h3, toks := tk } := by
    intro code h3 tk ps' hx hsz hP3 ⟨more, em⟩ ht3
    obtain ⟨bm, ob, e1, e2, e3, e4, e5, e6, e7, e8⟩ := TB.bm
    have keep3 : ∀ b u, b ≠ P → s2.heap.get? b = some u → h3.get? b = some u := fun b u hb e => hx b u hb e
    have J3 : Inv X pins σ (upd H1 P (.tbl (ps ++ more))) { s2 with heap := h3, toks := tk } := GxR.inv_tab (g' := s2.gens) (d' := s2.drawn) I2 hP keep3 (by rw [← em]; exact hP3) I2.bare
    refine wpAny_builtinsFor (m := X.mg) (by rw [I2.ok.glob]; exact ((I2.mod.glob.keeps I2.bk)).extBut hx TB.gP) e1 e2 (keep3 _ _ e4 (I2.bk _ _ e5)) e6 e7 e8 ?_
    intro h' hn hsb
    have kp : ∀ b o, h3.get? b = some o → h'.get? b = some o := fun b o e => (hsb.2 b (Nat.ne_of_lt (Heap.lt_size e))).trans (Heap.get?_push_of_some _ e)
    refine hQ J H1 (upd H1 P (.tbl (ps ++ more))) it fp tn code { s2 with heap := h3, toks := tk } h' _ _ _ q ⟨⟨ps ++ more, upd_same, by rw [← em]; exact ht3⟩, fun b hb => upd_ne hb⟩ T ⟨J3, ?_, fun b hb => ?_, hn, kp, ?_⟩
    · exact T.keep _ _ _ st2 fun b hb o e => keep3 b o (fun z => by have := (f2 b hb).1; rw [z, hP] at this; cases this) e
    · have hbP : b ≠ P := fun z => by have := (f2 b hb).1; rw [z, hP] at this; cases this
      obtain ⟨o, e, _⟩ := T.obj _ _ st2 b hb
      exact ⟨⟨by rw [upd_ne hbP]; exact (f2 b hb).1, (f2 b hb).2⟩, Heap.lt_size (keep3 b o hbP e)⟩
    · exact hn.lt
  cases hf : codeAmong gpos ps.toList with
  | none =>
    refine wpAny_genexprCodeX hcode (cd.code hPs htr) (cd.tab hPs) hf fun c' h' tk hx hge hlt hco' _ htab' _ => ?_
    obtain ⟨o1, vs, f1, tf, fl, tg, inF, tx, tt, op, _, _, _, _, _, _, _, _, _, htr', _⟩ := hco'
    exact cont _ h' tk _ hx (Nat.le_trans hge (Nat.le_of_lt hlt)) htab'.2 ⟨_, rfl⟩ htr'
  | some cv =>
    refine wpAny_genexprCode_hit hcode (cd.code hPs htr) hf ?_
    exact cont cv s2.heap s2.toks ps (Heap.ExtBut.refl _ _) (Nat.le_refl _) hPs ⟨#[], by simp⟩ htr
end
theorem gn_frames2 {A : Around} {elt tg iter : Expr} {ifs : List Expr} {tg2 iter2 : Expr} {ifs2 : List Expr} {scope : Scope} {pos : Pos} {it : Addr} {cenv : PySem.Env} {l : List PySem.Env} (h : A.frames = some l) :
    (A.in1.in1.over (.compLoop (gen2 elt tg iter ifs tg2 iter2 ifs2 scope pos) 0 (.ref it) .none cenv) []).frames = some (cenv :: l) := by
  obtain ⟨hd, d, fr, gs, u⟩ := A
  cases h
  first
    | rfl
    | simp [Around.over, marksOver, frameCount, unitsOf, envsOf, guardsOf, pushEnvs, pushGuards, Code.envs, Code.env?, Code.isFrame, gen2]
end Rf
/-! Rf55: all and any over a generator expression of two clauses. -/
namespace Rf
open PySem PySem.Spec PyProof.Rows L2 PySem.W GenW
def tQu2P (P : Addr) (stop : Bool) (wi : TI) (g : TG) (tt : TT) (wi2 : TI) (g2 : TG) (tt2 : TT) (te : TE) (vs vs2 : List Nat) : TE := fun σ H Q => wi σ H fun J H1 => GxR.TabG H1 P ∧ ∀ H2, GxR.Tabbed P H1 H2 → ∃ W : Nat → Nat → Hp → Prop, (∃ m, W 0 m H2) ∧ Turns2 stop J g tt wi2 g2 tt2 te vs vs2 σ Q W
theorem room_at {k : Nat} {A A1 : Around} (e1 : A1.handled = A.handled) (e2 : A1.depth = A.depth) (e3 : A1.units = A.units) (r : Room k A) : Room k A1 := by
  obtain ⟨hd, dp, un⟩ := r
  exact ⟨e1.trans hd, by rw [e2]; exact dp, by rw [e3]; exact un⟩
section
variable {X : Cx} {pins : List (Addr × Obj)} {σ : L2.St}
/-- behind the making: the generator stands ready, and what a turn finds leads back -/
theorem gen_ready2 {P : Addr} {elt tg iter : Expr} {ifs : List Expr} {tg2 iter2 : Expr} {ifs2 : List Expr} {gpos : Pos} {scope : Scope} {own : List (Str × Nat)} {g : TG} {tt : TT} {wi2 : TI} {g2 : TG} {tt2 : TT} {te : TE} {vs2 : List Nat} {stop : Bool} {Q : VK} {J : It} {H2 : Hp} {it : Addr} {fp : List Addr} {tn : Nat → Heap → Prop} {code : Value} {s4 : Shared} {h' : Heap} {n1 n2 : Value} {tk : Nat} {W : Nat → Nat → Hp → Prop} {m0 : Nat} {cenv : PySem.Env} {Y : Cx}
    (hc : X.calm = true) (hd : X.A.depth < recursionLimit) (hN : X.N.Nodup) (ok : BlkOk X.N X.env.scope scope own) (nocell : ∀ y ∈ scope.names, y.2 ≠ .cell) (hco : scope.isCoroutine = false) (hglob : X.env.globals = mainGlobals)
    (ec : cenv = genEnv scope (cloFrom X.env.cells scope.names []) s4.heap.objs.size code builtinsNs X.env)
    (eY : Y = gnCx X (X.A.in1.in1.over (.compLoop (gen2 elt tg iter ifs tg2 iter2 ifs2 scope gpos) 0 (.ref it) .none cenv) []) s4 H2 cenv fp)
    (T : Turn X.prog X.w X.K tg J fp it tn) (M : Made X pins σ H2 scope fp tn code s4 it h') (hpl : plainE iter2 = true) (hvs : ∀ b ∈ vs2, b ∈ own.map (·.2)) (pg : PG Y tg g) (pt : PTs Y ifs tt) (pi2 : PI Y tg2 iter2 wi2) (pg2 : ∀ A1, A1.handled = Y.A.handled → A1.depth = Y.A.depth → A1.units = Y.A.units → PG (atA Y A1) tg2 g2) (pt2 : ∀ A1, A1.handled = Y.A.handled → A1.depth = Y.A.depth → A1.units = Y.A.units → PTs (atA Y A1) ifs2 tt2) (pe : ∀ A1, A1.handled = Y.A.handled → A1.depth = Y.A.depth → A1.units = Y.A.units → PE (atA Y A1) elt te) (w0 : W 0 m0 H2)
    (turn : Turns2 stop J g tt wi2 g2 tt2 te (own.map (·.2)) vs2 σ Q W) :
    (∃ m, GnW X.prog X.w X.A.in1 h'.objs.size s4.gens.size Y [(h'.objs.size, genO s4.gens.size n1 n2)] stop Q m
      { s4 with gens := s4.gens.push (.fresh (.compStart (gen2 elt tg iter ifs tg2 iter2 ifs2 scope gpos) 0 (.ref it) .none cenv)), toks := tk, heap := h'.push (genO s4.gens.size n1 n2) }) ∧
    ∀ m s, GnW X.prog X.w X.A.in1 h'.objs.size s4.gens.size Y [(h'.objs.size, genO s4.gens.size n1 n2)] stop Q m s →
      wpAny (model X.prog X.w) X.A.in1 (pyNext (.ref h'.objs.size)) (Found stop (GnW X.prog X.w X.A.in1 h'.objs.size s4.gens.size Y [(h'.objs.size, genO s4.gens.size n1 n2)] stop Q) (fun v s' => EP X pins σ Q v s') m) (fun _ _ => False) s := by
  have hgo : (h'.push (genO s4.gens.size n1 n2)).get? h'.objs.size = some (genO s4.gens.size n1 n2) := Heap.get?_push_size _ rfl
  have kpp : ∀ b o, s4.heap.get? b = some o → (h'.push (genO s4.gens.size n1 n2)).get? b = some o := fun b o e => Heap.get?_push_of_some _ (M.kp b o e)
  have hle : s4.heap.objs.size ≤ h'.objs.size := Nat.le_of_lt M.sz
  constructor
  · subst eY
    refine ⟨m0 + 1, genO_is hgo, M.inv.nolimit.keeps kpp, .fresh _, gens_last, rfl, gen_start2 (fun A Q E q => T.self A 0 _ Q E (T.keep _ _ _ M.tn0 fun b _ o e => kpp b o e) q) ?_⟩
    refine gen_seg2 (Y := gnCx X (X.A.in1.in1.over (.compLoop (gen2 elt tg iter ifs tg2 iter2 ifs2 scope gpos) 0 (.ref it) .none cenv) []) s4 H2 cenv fp) (A := X.A.in1.in1) (fp := fp) (vs := own.map (·.2)) (W := W) hc rfl rfl (fun p hp b hb z => ?_) rfl rfl (by subst ec; exact hco) T hpl hvs pg pt pi2 pg2 pt2 pe turn (m0 + 1) m0 0 _ _ H2 (Nat.lt_succ_self m0) ?_ (T.keep _ _ _ M.tn0 fun b _ o e => kpp b o e) (fun b hb => (M.fpk b hb).1.1) w0
    · have ep : p = (h'.objs.size, genO s4.gens.size n1 n2) := by simpa using hp
      rw [ep] at z
      have := (M.fpk b hb).2
      have z : h'.objs.size = b := z
      rw [← z] at this
      exact absurd this (Nat.not_lt.mpr hle)
    · have J := gen_block (A := X.A.in1.in1.over (.compLoop (gen2 elt tg iter ifs tg2 iter2 ifs2 scope gpos) 0 (.ref it) .none cenv) []) (cenv := cenv) (h' := h'.push (genO s4.gens.size n1 n2)) (t' := tk)
        (g' := ({ s4 with gens := s4.gens.push (.fresh (.compStart (gen2 elt tg iter ifs tg2 iter2 ifs2 scope gpos) 0 (.ref it) .none cenv)) } : Shared).setGen s4.gens.size .running |>.gens)
        M.inv ok hN M.fpk nocell (by subst ec; rfl) (by subst ec; rfl) (by subst ec; exact hglob) (by subst ec; rfl) (by subst ec; rfl) (by subst ec; rfl)
        (fun h => M.inv.ok.hd h) (gn_frames2 M.inv.ok.frames) (M.ns.keeps fun b o e => Heap.get?_push_of_some _ e) kpp (allBare_setGen (M.inv.bare.push rfl) rfl)
      refine J.pins_of fun p hp => ?_
      have ep : p = (h'.objs.size, genO s4.gens.size n1 n2) := by simpa using hp
      subst ep
      refine ⟨hgo, M.inv.hok.fresh hle, ?_, fun hb => ?_, fun v z => nomatch z⟩
      · show h'.objs.size ≠ cenv.locals
        subst ec
        exact Nat.ne_of_gt M.sz
      · rcases List.mem_cons.mp (M.inv.stkSub _ hb) with z | z
        · have z : h'.objs.size = X.env.locals := z
          have q := M.inv.lt
          rw [← z] at q
          exact Nat.lt_irrefl _ (Nat.lt_of_lt_of_le q hle)
        · exact M.inv.nofs hle z
  · refine fun m s hW => quant_step (A := X.A.in1) (a := h'.objs.size) (og := genO s4.gens.size n1 n2) (show X.A.in1.handled = none from M.inv.ok.hd hc) (show X.A.in1.depth < recursionLimit from hd) (fun h e => genO_is e) (List.mem_cons_self ..) (fun s1 k H' σ' I q x h2 hx hk => ?_) m s hW
    subst eY
    have I7 : Inv X pins σ H' s1 := M.inv.call' (ch := fp) I.os I.base I.hok I.bare fun b hb => ⟨(M.fpk b hb).1.2.2.2.1, (M.fpk b hb).1.2.1, (M.fpk b hb).1.2.2.2.2.1, (M.fpk b hb).1.2.2.2.2.2⟩
    have I8 : Inv X pins σ H' { s1 with heap := h2 } := I7.kept (t' := s1.toks) hk
    exact ⟨.bl k, H', Inv.withGens I8 (allBare_setGen I8.bare hx), rfl, q⟩
end
section
variable {X : Cx}
theorem gn_room2 {k : Nat} {A : Around} {elt tg iter : Expr} {ifs : List Expr} {tg2 iter2 : Expr} {ifs2 : List Expr} {scope : Scope} {pos : Pos} {it : Addr} {cenv : PySem.Env} (r : Room (k + 3) A) :
    Room k (A.in1.in1.over (.compLoop (gen2 elt tg iter ifs tg2 iter2 ifs2 scope pos) 0 (.ref it) .none cenv) []) := by
  obtain ⟨hd, dp, un⟩ := r
  refine ⟨hd, ?_, ?_⟩
  · show A.depth + 0 + 1 + 3 * k + 5 < _
    omega
  · show A.units + 1 + 1 + 0 + 3 + 16 * k + 200 < _
    omega
theorem pe_qu2 {k : Nat} {stop : Bool} {c P : Addr} {elt tg iter : Expr} {ifs : List Expr} {tg2 iter2 : Expr} {ifs2 : List Expr} {gpos p pos : Pos} {scope : Scope} {own : List (Str × Nat)} {wi : TI} {g : TG} {tt : TT} {wi2 : TI} {g2 : TG} {tt2 : TT} {te : TE} {vs2 : List Nat}
    (hc : X.calm = true) (hr : Room (k + 3) X.A) (hN : X.N.Nodup) (hglob : X.env.globals = mainGlobals) (hg : Gl X (if stop then "any" else "all")) (hm : X.mg (if stop then "any" else "all") = none)
    (TB : GxR.TabB X.base X.mg c P) (hcode : X.env.code = .ref c) (hco : scope.isCoroutine = false) (nocell : ∀ y ∈ scope.names, y.2 ≠ .cell) (h0 : scope.names.lookup (".0" : Str) = some NameKind.local) (ok : BlkOk X.N X.env.scope scope own)
    (hi : PI X tg iter wi) (hs : ∀ v, genFold iter X.env v = pure v)
    (hpl : plainE iter2 = true) (hvs : ∀ b ∈ vs2, b ∈ own.map (·.2))
    (hpg : ∀ (A : Around) (s : Shared) (H : Hp) (C : Addr) (code : Value) (fp : List Addr), Room k A → PG (gnCx X A s H (genEnv scope (cloFrom X.env.cells scope.names []) C code builtinsNs X.env) fp) tg g)
    (hpt : ∀ (A : Around) (s : Shared) (H : Hp) (C : Addr) (code : Value) (fp : List Addr), Room k A → PTs (gnCx X A s H (genEnv scope (cloFrom X.env.cells scope.names []) C code builtinsNs X.env) fp) ifs tt)
    (hpi : ∀ (A : Around) (s : Shared) (H : Hp) (C : Addr) (code : Value) (fp : List Addr), Room k A → PI (gnCx X A s H (genEnv scope (cloFrom X.env.cells scope.names []) C code builtinsNs X.env) fp) tg2 iter2 wi2)
    (hpg2 : ∀ (A : Around) (s : Shared) (H : Hp) (C : Addr) (code : Value) (fp : List Addr), Room k A → PG (gnCx X A s H (genEnv scope (cloFrom X.env.cells scope.names []) C code builtinsNs X.env) fp) tg2 g2)
    (hpt2 : ∀ (A : Around) (s : Shared) (H : Hp) (C : Addr) (code : Value) (fp : List Addr), Room k A → PTs (gnCx X A s H (genEnv scope (cloFrom X.env.cells scope.names []) C code builtinsNs X.env) fp) ifs2 tt2)
    (hpe : ∀ (A : Around) (s : Shared) (H : Hp) (C : Addr) (code : Value) (fp : List Addr), Room k A → PE (gnCx X A s H (genEnv scope (cloFrom X.env.cells scope.names []) C code builtinsNs X.env) fp) elt te) :
    PE X (.Call (.Name (if stop then "any" else "all") p) [gen2 elt tg iter ifs tg2 iter2 ifs2 scope gpos] [] pos) (tQu2P P stop wi g tt wi2 g2 tt2 te (own.map (·.2)) vs2) := by
  have hd : X.A.depth < recursionLimit := hr.depth
  refine ⟨fun pins s σ H Q I h => ?_⟩
  have key : ∀ {A' : Around} (J : It) (H1 H2 : Hp) (it : Addr) (fp : List Addr) (tn : Nat → Heap → Prop) (code : Value) (s4 : Shared) (h' : Heap) (n1 n2 : Value) (tk : Nat),
      (∀ H2, GxR.Tabbed P H1 H2 → ∃ W : Nat → Nat → Hp → Prop, (∃ m, W 0 m H2) ∧ Turns2 stop J g tt wi2 g2 tt2 te (own.map (·.2)) vs2 σ Q W) →
      GxR.Tabbed P H1 H2 → Turn X.prog X.w X.K tg J fp it tn → Made X pins σ H2 scope fp tn code s4 it h' → wpAny (model X.prog X.w) X.A (call (.builtin (if stop then "any" else "all")) [.ref h'.objs.size]) (EP X pins σ Q) X.xe
        { s4 with gens := s4.gens.push (.fresh (.compStart (gen2 elt tg iter ifs tg2 iter2 ifs2 scope gpos) 0 (.ref it) .none (genEnv scope (cloFrom X.env.cells scope.names []) s4.heap.objs.size code builtinsNs X.env))), toks := tk, heap := h'.push (genO s4.gens.size n1 n2) } := by
    intro A' J H1 H2 it fp tn code s4 h' n1 n2 tk q htb T M
    obtain ⟨W, ⟨m0, w0⟩, turn⟩ := q H2 htb
    obtain ⟨⟨m, hW⟩, step⟩ := gen_ready2 (P := P) (n1 := n1) (n2 := n2) (tk := tk) hc hd hN ok nocell hco hglob rfl rfl T M hpl hvs (hpg _ _ _ _ _ _ (gn_room2 hr)) (hpt _ _ _ _ _ _ (gn_room2 hr)) (hpi _ _ _ _ _ _ (gn_room2 hr)) (fun A1 e1 e2 e3 => hpg2 _ _ _ _ _ _ (room_at e1 e2 e3 (gn_room2 hr))) (fun A1 e1 e2 e3 => hpt2 _ _ _ _ _ _ (room_at e1 e2 e3 (gn_room2 hr))) (fun A1 e1 e2 e3 => hpe _ _ _ _ _ _ (room_at e1 e2 e3 (gn_room2 hr))) w0 turn
    cases stop with
    | false => exact call_all_of (wpAny_pyIter_gen hW.1 ⟨_, _, m, rfl, hW, step⟩)
    | true => exact call_any_of (wpAny_pyIter_gen hW.1 ⟨_, _, m, rfl, hW, step⟩)
  have hb : bootBuiltins (if stop then "any" else "all") = some (.builtin (if stop then "any" else "all")) := by cases stop <;> decide +kernel
  refine wpAny_Call_Name_kw (ld_blt I hg hm hb ?_ (by cases stop <;> decide) (by cases stop <;> decide))
  refine PyProof.Rows.callWith_builtin1 ?_ (starEach_plain rfl [] X.env) rfl
  rw [plain1 rfl]
  exact Calls.spliced_cons (gen_make2 hd TB hcode hco nocell h0 ok hi hs I h fun J H1 H2 it fp tn code s4 h' n1 n2 tk q htb T M => Calls.spliced_nil (key (A' := X.A) J H1 H2 it fp tn code s4 h' n1 n2 tk q htb T M))
end
end Rf
/-! Rf56: what the evaluator says of all and any over a generator expression of two clauses. -/
namespace Rf
open PySem PySem.Spec PyProof.Rows L2 PySem.W
def quE2 (stop : Bool) (elt : E) (own own2 : List Nat) (t : Rf.T) (it : E) (fs : List E) (t2 : Rf.T) (it2 : E) (fs2 : List E) : E := match stop with
  | true => .any2 elt own own2 t it fs t2 it2 fs2
  | false => .all2 elt own own2 t it fs t2 it2 fs2
theorem seqOnly_inv {o : Option (Itr × St)} {ds : List D} (h1 : seqOnly o = some ds) : o = some (.seq ds, []) ∧ lenOk ds = true := by
  unfold seqOnly at h1
  split at h1
  · rename_i ds'
    cases hl : lenOk ds' with
    | false => rw [hl] at h1; cases h1
    | true => rw [hl] at h1; cases h1; exact ⟨rfl, hl⟩
  · cases h1
section
variable {X : Cx} {T : List Addr} {cl : Calls}
theorem ev_qu2_inv {stop : Bool} {elt it it2 : E} {own own2 : List Nat} {t t2 : Rf.T} {fs fs2 : List E} {env : Env} {st st' : St} {w : W} (h : ev cl (quE2 stop elt own own2 t it fs t2 it2 fs2) env st = some (w, st')) :
    ∃ ds b, st = [] ∧ evF cl it env [] = some (.seq ds, []) ∧ lenOk ds = true ∧ quant2 stop (fun env => seqOnly (evF cl it2 env [])) (ev cl elt) (tests (evT cl fs)) (tests (evT cl fs2)) t t2 own2 (wipeE env own) ds = some b ∧ w = .d (.bl b) ∧ st' = [] := by
  cases stop <;>
    (simp only [quE2, ev] at h
     split at h
     · split at h
       · rename_i ds h1
         split at h
         · rename_i b h2
           cases h
           obtain ⟨h4, h5⟩ := seqOnly_inv h1
           exact ⟨ds, b, rfl, h4, h5, h2, rfl, rfl⟩
         · cases h
       · cases h
     · cases h)
theorem qu2_stepP {P : Addr} {stop : Bool} {elt it it2 : E} {own own2 : List Nat} {t t2 : Rf.T} {fs fs2 : List E} {σ : L2.St} {H : Hp} {Q : VK} (hP : P ∈ T) (ht : tgIn own t = true) (ht2 : tgIn own2 t2 = true) (h : tEv T (ev cl (quE2 stop elt own own2 t it fs t2 it2 fs2)) σ H Q) :
    tQu2P P stop (tIv T (evF cl it)) (tTg T t) (tTs T (tests (evT cl fs))) (tIv T (evF cl it2)) (tTg T t2) (tTs T (tests (evT cl fs2))) (tEv T (ev cl elt)) own own2 σ H Q := by
  obtain ⟨F, ρ, env, st, w, st', r, hE, e1, fin⟩ := h
  obtain ⟨ds, res, rfl, h1, hl, h2, rfl, rfl⟩ := ev_qu2_inv e1
  have e0 := nil_of r
  subst e0
  refine ⟨F, [], env, [], .seq ds, [], r, hE, h1, fun F1 ρ1 H0 J s0 r0 hJ => ⟨r0.tab P hP, fun H1 htb => ?_⟩⟩
  have e1 := nil_of r0
  subst e1
  obtain ⟨sT, r1⟩ := tab_step r0 hP htb
  have s1 := s0.trans sT
  refine ⟨fun i m Hi => ∃ F2, Step T F1 [] H1 F2 [] Hi ∧ Rl T F2 [] [] Hi ∧ quant2 stop (fun env => seqOnly (evF cl it2 env [])) (ev cl elt) (tests (evT cl fs)) (tests (evT cl fs2)) t t2 own2 (wipeE env own) (ds.drop i) = some res ∧ m = (ds.length - i) * 100002 ∧ i ≤ ds.length,
    ⟨ds.length * 100002, F1, Step.refl, r1, by simpa using h2, by simp, by simp⟩, ?_⟩
  rintro i m Hi ⟨F2, s2, r2, hc, em, hi⟩
  have J1 := hJ i F2 [] [] Hi s2.le ⟨[], rfl⟩ r2
  by_cases hlt : i < ds.length
  · have hx : nth ds i = some ds[i] := by rw [nth_eq]; exact List.getElem?_eq_getElem hlt
    simp only [nxt, hx] at J1
    have hdr : ds.drop i = ds[i] :: ds.drop (i + 1) := List.drop_eq_getElem_cons hlt
    rw [hdr] at hc
    simp only [quant2] at hc
    refine .inr ⟨J1.1, fun x H2 hy => ?_⟩
    obtain ⟨F3, s3, r3, hx3⟩ := J1.2 x H2 hy
    have S3 := s2.trans s3
    have hm : (ds.length - (i + 1)) * 100002 + 100002 = m := by
      rw [em, show ds.length - i = (ds.length - (i + 1)) + 1 by omega, Nat.add_mul, Nat.one_mul]
    split at hc
    · cases hc
    · rename_i env2 h3
      refine ⟨F3, [], wipeE env own, [], ds[i], env2, r3, ((RE.wipe hE own).step s1).step S3, hx3, h3, fun σ2 hE2 ow => ⟨(ow own ht).trans (wipe_sub fun _ h => h), ?_⟩⟩
      split at hc
      · cases hc
      · rename_i h4
        refine ⟨F3, env2, false, r3, hE2, h4, fun F4 H4 s4 r4 => ?_⟩
        show if false = true then _ else _
        rw [if_neg (by decide)]
        exact ⟨(ds.length - (i + 1)) * 100002, by omega, F4, S3.trans s4, r4, hc, rfl, hlt⟩
      · rename_i h4
        refine ⟨F3, env2, true, r3, hE2, h4, fun F4 H4 s4 r4 => ?_⟩
        show if true = true then _ else _
        rw [if_pos rfl]
        split at hc
        · cases hc
        · rename_i ds2 h5
          obtain ⟨h6, hl2⟩ := seqOnly_inv h5
          have hl2 : ds2.length ≤ 100000 := Nat.le_of_ble_eq_true hl2
          split at hc
          · cases hc
          · rename_i b h7
            have hb : (b = stop ∧ res = stop) ∨ (b = !stop ∧ quant2 stop (fun env => seqOnly (evF cl it2 env [])) (ev cl elt) (tests (evT cl fs)) (tests (evT cl fs2)) t t2 own2 (wipeE env own) (ds.drop (i + 1)) = some res) := by
              split at hc
              · rename_i hb
                cases hc
                exact .inl ⟨eq_of_beq hb, rfl⟩
              · rename_i hb
                refine .inr ⟨?_, hc⟩
                cases b <;> cases stop <;> first | rfl | (exact absurd hb (by decide))
            refine ⟨F4, [], env2, [], .seq ds2, [], r4, hE2.step s4, h6, fun F5 ρ5 H5 J2 s5 r5 hJ2 => ?_⟩
            have e5 := nil_of r5
            subst e5
            have S5 := (S3.trans s4).trans s5
            refine ⟨fun j m2 Hj => ∃ F6, Step T F5 [] H5 F6 [] Hj ∧ Rl T F6 [] [] Hj ∧ quant stop (ev cl elt) (tests (evT cl fs2)) t2 (wipeE env2 own2) (ds2.drop j) = some b ∧ m2 = (ds.length - (i + 1)) * 100002 + (ds2.length - j) + 1 ∧ j ≤ ds2.length,
              ⟨(ds.length - (i + 1)) * 100002 + ds2.length + 1, by omega, F5, Step.refl, r5, by simpa using h7, by simp, by simp⟩, ?_⟩
            rintro j m2 Hj ⟨F6, s6, r6, hc6, em2, hj⟩
            have J6 := hJ2 j F6 [] [] Hj s6.le ⟨[], rfl⟩ r6
            by_cases hlt2 : j < ds2.length
            · have hx2 : nth ds2 j = some ds2[j] := by rw [nth_eq]; exact List.getElem?_eq_getElem hlt2
              simp only [nxt, hx2] at J6
              have hdr2 : ds2.drop j = ds2[j] :: ds2.drop (j + 1) := List.drop_eq_getElem_cons hlt2
              rw [hdr2] at hc6
              simp only [quant] at hc6
              refine .inr ⟨J6.1, fun H' => ∃ F7, Step T F5 [] H5 F7 [] H' ∧ Rl T F7 [] [] H' ∧ quant stop (ev cl elt) (tests (evT cl fs2)) t2 (wipeE env2 own2) (ds2.drop (j + 1)) = some b, ?_, ?_⟩
              · rintro H' ⟨F7, q1, q2, q3⟩
                exact ⟨(ds.length - (i + 1)) * 100002 + (ds2.length - (j + 1)) + 1, by omega, F7, q1, q2, q3, rfl, hlt2⟩
              · intro y H7 hy7
                obtain ⟨F7, s7, r7, hx7⟩ := J6.2 y H7 hy7
                have S7 := s6.trans s7
                split at hc6
                · cases hc6
                · rename_i env3 h8
                  refine ⟨F7, [], wipeE env2 own2, [], ds2[j], env3, r7, ((RE.wipe ((hE2.step s4).step s5) own2).step S7), hx7, h8, fun σ3 hE3 ow3 => ⟨(ow3 own2 ht2).trans (wipe_sub fun _ h => h), ?_⟩⟩
                  split at hc6
                  · cases hc6
                  · rename_i h9
                    refine ⟨F7, env3, false, r7, hE3, h9, fun F8 H8 s8 r8 => ?_⟩
                    show if false = true then _ else _
                    rw [if_neg (by decide)]
                    exact ⟨F8, S7.trans s8, r8, hc6⟩
                  · rename_i h9
                    refine ⟨F7, env3, true, r7, hE3, h9, fun F8 H8 s8 r8 => ?_⟩
                    show if true = true then _ else _
                    rw [if_pos rfl]
                    split at hc6
                    · rename_i b2 h10
                      obtain ⟨st5, h11⟩ := bool_inv h10
                      refine ⟨F8, [], env3, [], .d (.bl b2), st5, r8, hE3.step s8, h11, fun F9 ρ9 H9 y s9 r9 w9 => ?_⟩
                      cases (show y = .bl b2 from w9)
                      have S9 : Step T F8 [] H8 F9 [] H9 := s9.drop
                      refine ⟨b2, rfl, ?_⟩
                      split at hc6
                      · rename_i hb2
                        cases hc6
                        have hb2 : b2 = stop := eq_of_beq hb2
                        refine .inl ⟨hb2, ?_⟩
                        rcases hb with ⟨_, hr⟩ | ⟨hn, _⟩
                        · have := fin F9 [] H9 (.bl res) (s1.trans (S5.trans ((S7.trans s8).trans S9))) r9.none_ rfl
                          rw [hr] at this
                          exact this
                        · cases stop <;> cases hn
                      · rename_i hb2
                        refine .inr ⟨?_, F9, (S7.trans s8).trans S9, r9.none_, hc6⟩
                        cases b2 <;> cases stop <;> first | rfl | (exact absurd hb2 (by decide))
                    · cases hc6
            · have ej : j = ds2.length := by omega
              subst ej
              have hx2 : nth ds2 ds2.length = none := by rw [nth_eq]; exact List.getElem?_eq_none (Nat.le_refl _)
              simp only [nxt, hx2, stopAt_self] at J6
              rw [List.drop_length] at hc6
              have hc6 : some (!stop) = some b := hc6
              cases hc6
              refine .inl ⟨J6, (ds.length - (i + 1)) * 100002, by omega, by omega, F6, S5.trans s6, r6, ?_, rfl, hlt⟩
              rcases hb with ⟨hn, _⟩ | ⟨_, hr⟩
              · cases stop <;> cases hn
              · exact hr
  · have ei : i = ds.length := by omega
    subst ei
    have hx : nth ds ds.length = none := by rw [nth_eq]; exact List.getElem?_eq_none (Nat.le_refl _)
    simp only [nxt, hx, stopAt_self] at J1
    have hc2 : quant2 stop (fun env => seqOnly (evF cl it2 env [])) (ev cl elt) (tests (evT cl fs)) (tests (evT cl fs2)) t t2 own2 (wipeE env own) [] = some res := by
      rw [List.drop_length] at hc
      exact hc
    cases hc2
    exact .inl ⟨J1, fin F2 [] Hi _ (s1.trans s2) r2 rfl⟩
end
end Rf
/-! Rg0: the compiler, second form: what it accepts has a rule. -/
namespace Rf
open PySem
def plainE' : Expr → Bool
  | .Starred .. => false
  | .Slice .. => false
  | .Set .. => false
  | _ => true
/-- what a generator expression may walk -/
def plainI : Expr → Bool
  | .Starred .. => false
  | .Slice .. => false
  | .Set .. => false
  | .List .. => false
  | _ => true
def baseE' : Expr → Bool
  | .Call .. => false
  | _ => true
def truE' : Expr → Bool
  | .UnaryOp .Not _ _ => false
  | .BoolOp .. => false
  | .IfExp .. => false
  | .Compare .. => false
  | _ => true
mutual
def tgIn' (vs : List Nat) : T → Bool
  | .nm i => vs.contains i
  | .tp ts => tgsIn' vs ts
def tgsIn' (vs : List Nat) : List T → Bool
  | [] => true
  | t :: ts => tgIn' vs t && tgsIn' vs ts
end
mutual
def tgS : T → List Nat
  | .nm i => [i]
  | .tp ts => tgSs ts
def tgSs : List T → List Nat
  | [] => []
  | t :: ts => tgS t ++ tgSs ts
end
/-- a block's names: its own with their places, or captured -/
def blkB (N : List Str) (sc scope : Scope) (own : List (Str × Nat)) : Bool :=
  decide (scope.kind = .function) && scope.names.all (fun y => decide (scope.names.lookup y.1 = some y.2)) && own.all (fun p => decide (N[p.2]? = some p.1)) &&
  scope.names.all (fun y => match y.2 with
    | .free => decide (sc.names.lookup y.1 = some .cell) || decide (sc.names.lookup y.1 = some .free)
    | .local => (own.map (·.1)).contains y.1 || !N.contains y.1
    | .cell => (own.map (·.1)).contains y.1 || !N.contains y.1
    | _ => true)
def isCellK : NameKind → Bool
  | .cell => true
  | _ => false
/-- a generator expression's names -/
def genB (scope : Scope) : Bool := !scope.isCoroutine && scope.names.all (fun y => !isCellK y.2) && decide (scope.names.lookup (".0" : Str) = some NameKind.local)
/-- the names that swap with the value's (the value a comprehension on the same line) -/
def swapB (sc : Scope) (e : Expr) (x : Str) (line : Nat) : Bool := match e with
  | .ListComp _ _ s p => decide (sc.names.lookup x = some .local) && line == p.line && !(s.names.any fun (n, k) => n == x && (k == .local || k == .cell))
  | .SetComp _ _ s p => decide (sc.names.lookup x = some .local) && line == p.line && !(s.names.any fun (n, k) => n == x && (k == .local || k == .cell))
  | .DictComp _ _ _ s p => decide (sc.names.lookup x = some .local) && line == p.line && !(s.names.any fun (n, k) => n == x && (k == .local || k == .cell))
  | _ => false
def isStar : Expr → Bool
  | .Starred .. => true
  | _ => false
def tgName (sc : Scope) (line : Nat) : Expr → Option Str
  | .Name id pos => if sc.names.lookup id == some .local && pos.line == line then some id else none
  | _ => none
/-- do the stores swap: no answer, none, these names -/
def swapSt (sc : Scope) (ts vs : List Expr) : Option (Option (List Str)) :=
  if !(ts.length == 2 || ts.length == 3) || vs.length != ts.length then some none
  else if vs.any isStar then some none
  else if (ts.filterMap (tgName sc ((ts.head?.map (·.pos.line)).getD 0))).length != ts.length || (ts.filterMap (tgName sc ((ts.head?.map (·.pos.line)).getD 0))).eraseDups.length != (ts.filterMap (tgName sc ((ts.head?.map (·.pos.line)).getD 0))).length then some none
  else if vs.all (foldedForSure 8) then some none
  else if vs.all (constantsAlone 8) then none
  else some (some (ts.filterMap (tgName sc ((ts.head?.map (·.pos.line)).getD 0))))
/-- built-in functions of one value -/
def prim1 (x : Str) : Option Prim :=
  if x = "len" then some .len
  else if x = "abs" then some .abs
  else if x = "int" then some .int
  else if x = "sum" then some .sum
  else if x = "min" then some .min1
  else if x = "max" then some .max1
  else if x = "sorted" then some .sorted
  else if x = "tuple" then some .tuple
  else if x = "list" then some .list
  else if x = "all" then some .all1
  else if x = "any" then some .any1
  else none
def prim2 (x : Str) : Option Prim :=
  if x = "min" then some .min2
  else if x = "max" then some .max2
  else none
def meth1 (m : Str) : Option Prim :=
  if m = "index" then some .index
  else if m = "count" then some .count
  else if m = "join" then some .join
  else none
def isGenE : Expr → Bool
  | .GeneratorExp .. => true
  | _ => false
def fewL {α : Type} (es : List α) : Bool := Nat.ble es.length 1000
/-- is g the built-in (or imported) name x here -/
def isBi (C : Cc) (sc : Scope) (g x : Str) : Bool := decide (g = x) && isGl sc g && (posOf g C.fns 0).isNone
mutual
def kE (C : Cc) : Nat → Scope → Bool → Expr → Option E
  | 0, _, _, _ => none
  | n + 1, sc, box, e => match e with
    | .Constant c _ _ => (match c with
      | .none => some (.lit .non)
      | .bool b => some (.lit (.bl b))
      | .int i => some (.lit (.int i))
      | .str s => some (.lit (.str s.cps.toList))
      | _ => none)
    | .Name x _ => (match slotR C sc x with
      | some i => some (.var i)
      | none => none)
    | .Tuple es _ _ => (match kEs C n sc es with
      | some es' => (match fewL es' with
        | true => some (.tup (C.fz && es.all litE) es')
        | false => none)
      | none => none)
    | .List es _ => (match kEs C n sc es with
      | some es' => (match fewL es' with
        | true => some (.lst box es')
        | false => none)
      | none => none)
    | .Dict ks vs _ => (match ks, vs with
      | [], [] => some (.dct box [])
      | [some k], [v] => (match kE C n sc false k, kE C n sc false v with
        | some x, some y => some (.dct box [x, y])
        | _, _ => none)
      | _, _ => none)
    | .BinOp a op b _ => (match bopOf op, kE C n sc false a, kE C n sc false b with
      | some o, some x, some y => some (.bin o box x y)
      | _, _, _ => none)
    | .UnaryOp op a _ => (match op with
      | .USub => (match kE C n sc false a with
        | some x => some (.neg x)
        | none => none)
      | .Not => (match kE C n sc false a with
        | some x => some (.not_ (.tru x))
        | none => none)
      | _ => none)
    | .Compare a ops cs _ => (match ops, cs with
      | [op], [b] => (match kE C n sc false a, kE C n sc false b with
        | some x, some y => some (.cmp (copOf op) x y)
        | _, _ => none)
      | [op, op'], [b, c] => (match kE C n sc false a, kE C n sc false b, kE C n sc false c with
        | some x, some y, some z => some (.chain (copOf op) (copOf op') x y z)
        | _, _, _ => none)
      | [op, op', op2], [b, c, d] => (match kE C n sc false a, kE C n sc false b, kE C n sc false c, kE C n sc false d with
        | some x, some y, some z, some u => some (.chain3 (copOf op) (copOf op') (copOf op2) x y z u)
        | _, _, _, _ => none)
      | _, _ => none)
    | .BoolOp op vs _ => (match vs with
      | [] => none
      | v :: r => kBool C n sc op v r)
    | .IfExp c a b _ => (match kT C n sc c, kE C n sc box a, kE C n sc box b with
      | some x, some y, some z => some (.ite x y z)
      | _, _, _ => none)
    | .Subscript a i _ => (match i with
      | .Slice lo hi st _ => (match st with
        | none => (match kE C n sc false a, kO C n sc lo, kO C n sc hi with
          | some x, some l, some h => some (.slc box x l h)
          | _, _, _ => none)
        | some (.UnaryOp .USub (.Constant (.int 1) _ _) _) => (match lo with
          | none => (match kE C n sc false a, kO C n sc hi with
            | some x, some h => some (.slr box x h)
            | _, _ => none)
          | some _ => none)
        | some _ => none)
      | i => (match kE C n sc false a, kE C n sc false i with
        | some x, some y => some (.ix x y)
        | _, _ => none))
    | .ListComp elt gens scope _ => (match gens with
      | [⟨t, it, ifs, 0⟩] => (match kI C n sc t it, cTg (inC C scope) (relB scope sc) 8 t, kE (inC C scope) n (relB scope sc) false elt, kTs (inC C scope) n (relB scope sc) ifs with
        | some i, some tg, some e', some fs => (match plainE' it && blkB C.N sc scope (ownOf C scope) && tgIn' ((ownOf C scope).map (·.2)) tg with
          | true => some (.pur (mdOf C e) box (.comp e' ((ownOf C scope).map (·.2)) tg i fs))
          | false => none)
        | _, _, _, _ => none)
      | _ => none)
    | .DictComp k v gens scope _ => (match gens with
      | [⟨t, it, ifs, 0⟩] => (match kI C n sc t it, cTg (inC C scope) (relB scope sc) 8 t, kE (inC C scope) n (relB scope sc) false k, kE (inC C scope) n (relB scope sc) false v, kTs (inC C scope) n (relB scope sc) ifs with
        | some i, some tg, some k', some v', some fs => (match plainE' it && blkB C.N sc scope (ownOf C scope) && tgIn' ((ownOf C scope).map (·.2)) tg with
          | true => some (.pur (mdOf C e) box (.dcomp k' v' ((ownOf C scope).map (·.2)) tg i fs))
          | false => none)
        | _, _, _, _, _ => none)
      | _ => none)
    | .Call f args kws pos => (match kws with
      | [] => kCall C n sc box f args pos
      | _ :: _ => none)
    | _ => none
/-- calls without keywords -/
def kCall (C : Cc) : Nat → Scope → Bool → Expr → List Expr → Pos → Option E
  | 0, _, _, _, _, _ => none
  | n + 1, sc, box, f, args, pos => match f with
    | .Name g _ => (match isGl sc g && okName g with
      | false => none
      | true => (match posOf g C.fns 0 with
        | some k => (match C.refs.contains g with
          | true => none
          | false => (match kEs C n sc args with
            | some es => some (.call k es)
            | none => none))
        | none => (match args with
          | [a] => (match isGenE a with
            | true => kGen C n sc g a
            | false => (match kOf C n sc box g a with
              | some r => some r
              | none => (match prim1 g, kE C n sc false a with
                | some p, some x => some (.prim p box [x])
                | _, _ => none)))
          | [a, b] => (match decide (g = "gcd") && C.imp.contains "gcd" with
            | true => (match kE C n sc false a, kE C n sc false b with
              | some x, some y => some (.prim .gcd false [x, y])
              | _, _ => none)
            | false => (match decide (g = "isinstance") with
              | true => (match b with
                | .Name t _ => (match isGl sc t && (posOf t C.fns 0).isNone, isiOf t, kE C n sc false a with
                  | true, some p, some x => some (.prim p false [x])
                  | _, _, _ => none)
                | _ => none)
              | false => (match prim2 g, kE C n sc false a, kE C n sc false b with
                | some p, some x, some y => some (.prim p box [x, y])
                | _, _, _ => none)))
          | _ => none)))
    | .Attribute o m apos => (match apos.endLine == pos.line with
      | false => none
      | true => kMeth C n sc o m args)
    | _ => none
/-- methods -/
def kMeth (C : Cc) : Nat → Scope → Expr → Str → List Expr → Option E
  | 0, _, _, _, _ => none
  | n + 1, sc, o, m, args => match args with
    | [] => (match decide (m = "pop"), o with
      | true, .Name x _ => (match slotR C sc x with
        | some i => some (.pop1 i)
        | none => none)
      | _, _ => none)
    | [a] => (match decide (m = "append") with
      | true => (match o with
        | .Name x _ => (match slotR C sc x, kE C n sc false a with
          | some i, some e => some (.push i e)
          | _, _ => none)
        | _ => none)
      | false => (match decide (m = "extend") with
        | true => (match o with
          | .Name x _ => (match slotR C sc x, kE C n sc false a with
            | some i, some e => some (.extend i e)
            | _, _ => none)
          | _ => none)
        | false => (match decide (m = "get") with
          | true => (match baseE' o, kE C n sc false o, kE C n sc false a with
            | true, some d, some e => some (.dget d e (.lit .non))
            | _, _, _ => none)
          | false => (match meth1 m, baseE' o, kE C n sc false o, kE C n sc false a with
            | some p, true, some i, some e => some (.meth p i e)
            | _, _, _, _ => none))))
    | [a, b] => (match decide (m = "get") with
      | true => (match baseE' o, kE C n sc false o, kE C n sc false a, kE C n sc false b with
        | true, some d, some e, some z => some (.dget d e z)
        | _, _, _, _ => none)
      | false => none)
    | _ => none
/-- all, any of a generator expression -/
def kGen (C : Cc) : Nat → Scope → Str → Expr → Option E
  | 0, _, _, _ => none
  | n + 1, sc, g, a => match Nat.beq C.lv 1 with
    | false => none
    | true => (match a with
      | .GeneratorExp elt gens scope _ => (match gens with
        | [⟨t, it, ifs, 0⟩] => (match kI C n sc t it, cTg (inG C 0 scope) scope 8 t, kE (inG C 0 scope) n scope false elt, kTs (inG C 0 scope) n scope ifs with
          | some i, some tg, some e', some fs => (match plainI it && blkB C.N sc scope (ownOf C scope) && tgIn' ((ownOf C scope).map (·.2)) tg && genB scope with
            | true => if g = "all" then some (.pur true false (.all_ e' ((ownOf C scope).map (·.2)) tg i fs)) else if g = "any" then some (.pur true false (.any_ e' ((ownOf C scope).map (·.2)) tg i fs)) else none
            | false => none)
          | _, _, _, _ => none)
        | [⟨t, it, ifs, 0⟩, ⟨t2, it2, ifs2, 0⟩] => (match kI C n sc t it, cTg (inG C 0 scope) scope 8 t, kTs (inG C 0 scope) n scope ifs with
          | some i, some tg, some fs => (match kI (inG C 0 scope) n scope t2 it2, cTg (inG C 0 scope) scope 8 t2, kTs (inG C 0 scope) n scope ifs2, kE (inG C 0 scope) n scope false elt with
            | some i2, some tg2, some fs2, some e' => (match plainI it && blkB C.N sc scope (ownOf C scope) && tgIn' ((ownOf C scope).map (·.2)) tg && genB scope && (plainE' it2 && tgIn' (tgS tg2) tg2 && (tgS tg2).all fun b => ((ownOf C scope).map (·.2)).contains b) with
              | true => if g = "all" then some (.pur true false (.all2 e' ((ownOf C scope).map (·.2)) (tgS tg2) tg i fs tg2 i2 fs2)) else if g = "any" then some (.pur true false (.any2 e' ((ownOf C scope).map (·.2)) (tgS tg2) tg i fs tg2 i2 fs2)) else none
              | false => none)
            | _, _, _, _ => none)
          | _, _, _ => none)
        | _ => none)
      | _ => none)
/-- list, tuple of what is walked alone -/
def kOf (C : Cc) : Nat → Scope → Bool → Str → Expr → Option E
  | 0, _, _, _, _ => none
  | n + 1, sc, box, g, a => match decide (g = "list"), decide (g = "tuple") with
    | false, false => none
    | _, _ => (match a with
      | .Call (.Name h _) hargs [] _ => (match isBi C sc h "range", hargs with
        | true, [x] => (match kE C n sc false x with
          | some x' => some (.ofIt (decide (g = "tuple")) box (.rng1 x'))
          | none => none)
        | true, [x, y] => (match kE C n sc false x, kE C n sc false y with
          | some x', some y' => some (.ofIt (decide (g = "tuple")) box (.rng2 x' y'))
          | _, _ => none)
        | true, _ => none
        | false, _ => (match isBi C sc h "combinations" && C.imp.contains "combinations" && decide (g = "list"), hargs with
          | true, [.Call (.Name r _) [x] [] _, y] => (match isBi C sc r "range", kE C n sc false x, kE C n sc false y with
            | true, some x', some y' => some (.ofIt false box (.combs (.rng1 x') y'))
            | _, _, _ => none)
          | _, _ => none))
      | _ => none)
def kBool (C : Cc) : Nat → Scope → BoolOp → Expr → List Expr → Option E
  | 0, _, _, _, _ => none
  | n + 1, sc, op, v, r => match r with
    | [] => kE C n sc false v
    | v2 :: r2 => (match kE C n sc false v, kBool C n sc op v2 r2 with
      | some x, some y => (match op with
        | .And => some (.and_ x y)
        | .Or => some (.or_ x y))
      | _, _ => none)
def kBoolT (C : Cc) : Nat → Scope → BoolOp → Expr → List Expr → Option E
  | 0, _, _, _, _ => none
  | n + 1, sc, op, v, r => match r with
    | [] => kT C n sc v
    | v2 :: r2 => (match kT C n sc v, kBoolT C n sc op v2 r2 with
      | some x, some y => (match op with
        | .And => some (.and_ x y)
        | .Or => some (.or_ x y))
      | _, _ => none)
/-- tests -/
def kT (C : Cc) : Nat → Scope → Expr → Option E
  | 0, _, _ => none
  | n + 1, sc, e => match e with
    | .BoolOp op vs _ => (match vs with
      | [] => none
      | v :: r => kBoolT C n sc op v r)
    | .UnaryOp .Not a _ => (match kT C n sc a with
      | some x => some (.not_ x)
      | none => none)
    | .Compare a ops cs p => kE C n sc false (.Compare a ops cs p)
    | .IfExp c a b _ => (match kT C n sc c, kT C n sc a, kT C n sc b with
      | some x, some y, some z => some (.ite x y z)
      | _, _, _ => none)
    | e => (match truE' e, kE C n sc false e with
      | true, some x => some (.tru x)
      | _, _ => none)
/-- the tests of a clause: none or one -/
def kTs (C : Cc) : Nat → Scope → List Expr → Option (List E)
  | 0, _, _ => none
  | n + 1, sc, es => match es with
    | [] => some []
    | [e] => (match kT C n sc e with
      | some x => some [x]
      | none => none)
    | _ => none
def kEs (C : Cc) : Nat → Scope → List Expr → Option (List E)
  | 0, _, _ => none
  | n + 1, sc, es => match es with
    | [] => some []
    | e :: r => (match kE C n sc false e, kEs C n sc r with
      | some x, some xs => some (x :: xs)
      | _, _ => none)
def kO (C : Cc) : Nat → Scope → Option Expr → Option (Option E)
  | 0, _, _ => none
  | n + 1, sc, o => match o with
    | none => some none
    | some e => (match kE C n sc false e with
      | some x => some (some x)
      | none => none)
/-- what is walked; t: the target -/
def kI (C : Cc) : Nat → Scope → Expr → Expr → Option E
  | 0, _, _, _ => none
  | n + 1, sc, t, e => match e with
    | .Call (.Name g _) args [] _ => (match isGl sc g && (posOf g C.fns 0).isNone with
      | true => (match decide (g = "range"), args with
        | true, [a] => (match kE C n sc false a with
          | some x => some (.rng1 x)
          | none => none)
        | true, [a, b] => (match kE C n sc false a, kE C n sc false b with
          | some x, some y => some (.rng2 x y)
          | _, _ => none)
        | true, [a, b, c] => (match kE C n sc false a, kE C n sc false b, kE C n sc false c with
          | some x, some y, some z => some (.rng3 x y z)
          | _, _, _ => none)
        | true, _ => none
        | false, _ => (match decide (g = "enumerate"), args with
          | true, [a] => (match t, kE C n sc false a with
            | .Tuple .., some x => some (.enum x)
            | _, _ => none)
          | true, _ => none
          | false, _ => (match decide (g = "zip"), args with
            | true, [a, b] => (match t, kE C n sc false a, kE C n sc false b with
              | .Tuple .., some x, some y => some (.zip x y)
              | _, _, _ => none)
            | true, _ => none
            | false, _ => (match decide (g = "combinations") && C.imp.contains "combinations", args with
              | true, [.Call (.Name r _) [x] [] _, y] => (match isBi C sc r "range", kE C n sc false x, kE C n sc false y with
                | true, some x', some y' => some (.combs (.rng1 x') y')
                | _, _, _ => none)
              | true, _ => none
              | false, _ => (match kE C n sc false e with
                | some x => some (.walk x)
                | none => none)))))
      | false => (match kE C n sc false e with
        | some x => some (.walk x)
        | none => none))
    | e => (match kE C n sc false e with
      | some x => some (.walk x)
      | none => none)
end
/-! statements -/
def isLC' : Expr → Bool
  | .ListComp .. => true
  | .DictComp .. => true
  | _ => false
def callE' : Expr → Bool
  | .Call .. => true
  | _ => false
def slotsL (C : Cc) (sc : Scope) : List Str → Option (List Nat)
  | [] => some []
  | x :: r => (match slotW C sc x, slotsL C sc r with
    | some i, some is => some (i :: is)
    | _, _ => none)
mutual
def kS (C : Cc) : Nat → Scope → Stmt → Option S
  | 0, _, _ => none
  | n + 1, sc, s => match s with
    | .Assign [t] e pos => (match t with
      | .Name x p => (match swapB sc e x p.line with
        | false => (match slotW C sc x, kE C 100 sc (C.mu.contains x) e with
          | some i, some e' => some (.asg (.nm i) e')
          | _, _ => none)
        | true => (match slotW C sc x, kE C 100 sc (C.mu.contains x) e with
          | some i, some e' => some (.asg (.nm i) e')
          | _, _ => none))
      | .Tuple ts _ _ => (match e with
        | .Tuple vs _ _ => (match swapSt sc ts vs with
          | none => none
          | some none => (match cTg C sc 8 t, kE C 100 sc false e with
            | some tg, some e' => some (.asg tg e')
            | _, _ => none)
          | some (some names) => (match slotsL C sc names, kEs C 100 sc vs, decide names.Nodup with
            | some is, some es', true => some (.par is es')
            | _, _, _ => none))
        | _ => (match cTg C sc 8 t, kE C 100 sc false e with
          | some tg, some e' => some (.asg tg e')
          | _, _ => none))
      | .Subscript (.Name a _) i _ => (match slotR C sc a, kE C 100 sc false i, kE C 100 sc false e with
        | some a', some i', some e' => some (.setI a' i' e')
        | _, _, _ => none)
      | _ => none)
    | .AugAssign t op e _ => (match bopOf op with
      | none => none
      | some o => (match t with
        | .Name x _ => (match slotW C sc x, kE C 100 sc false e with
          | some i, some e' => some (.aug o i e')
          | _, _ => none)
        | .Subscript (.Name a _) i _ => (match slotR C sc a, kE C 100 sc false i, kE C 100 sc false e with
          | some a', some i', some e' => some (.augI o a' i' e')
          | _, _, _ => none)
        | _ => none))
    | .Expr e _ => (match callE' e, kE C 100 sc false e with
      | true, some e' => some (.ex e')
      | _, _ => none)
    | .Return o _ => (match o with
      | some e => (match kE C 100 sc false e with
        | some e' => some (.ret e')
        | none => none)
      | none => some (.ret (.lit .non)))
    | .If c a b _ => (match kT C 100 sc c, kSs C n sc a, kSs C n sc b with
      | some c', some a', some b' => some (.ifs c' a' b')
      | _, _, _ => none)
    | .For t it b [] _ => (match cTg C sc 8 t, kI C 100 sc t it, kSs C n sc b, plainE' it with
      | some t', some i', some b', true => some (.for_ t' i' b')
      | _, _, _, _ => none)
    | .While c b [] _ => (match kT C 100 sc c, kSs C n sc b with
      | some c', some b' => some (.while_ c' b')
      | _, _ => none)
    | .Break _ => some .brk
    | .Continue _ => some .cont
    | .Pass _ => some .pass
    | _ => none
def kSs (C : Cc) : Nat → Scope → List Stmt → Option (List S)
  | 0, _, _ => none
  | n + 1, sc, ss => match ss with
    | [] => some []
    | s :: r => (match kS C n sc s, kSs C n sc r with
      | some x, some xs => some (x :: xs)
      | _, _ => none)
end
/-- a def's scope -/
def fnB (N ps : List Str) (sc : Scope) : Bool := decide (sc.kind = .function) && !sc.isCoroutine && !sc.isGenerator && decide N.Nodup && decide (N.take ps.length = ps) &&
  ps.all (fun x => decide (sc.names.lookup x = some .local) || decide (sc.names.lookup x = some .cell)) && sc.names.all (fun y => decide (y.2 ≠ .free))
/-- x = y of names -/
def alS : Nat → Stmt → List (Str × Str)
  | 0, _ => []
  | n + 1, s => match s with
    | .Assign [.Name x _] (.Name y _) _ => [(x, y)]
    | .If _ a b _ => a.flatMap (alS n) ++ b.flatMap (alS n)
    | .For _ _ b _ _ => b.flatMap (alS n)
    | .While _ b _ _ => b.flatMap (alS n)
    | _ => []
def alGrow (al : List (Str × Str)) (mu : List Str) : List Str := (mu ++ al.filterMap fun p => if mu.contains p.2 then some p.1 else none).eraseDups
def muOf (refs : List Str) (b : List Stmt) : List Str := alGrow (b.flatMap (alS 60)) (alGrow (b.flatMap (alS 60)) ((b.flatMap (muS 60 refs)).eraseDups))
def kFn (fz fns refs imp : List Str) (s : Stmt) : Option Fn :=
  let N := slotsOf s
  let C : Cc := ⟨fz.contains ((defN s).getD default), 1, fun _ => true, N, fns, refs, muOf refs (defB s), imp⟩
  match kSs C 100 (defSc s) (defB s), fnB N (defPs s) (defSc s) with
  | some b, true => some ⟨(defPs s).length, N.length, b, none⟩
  | _, _ => none
end Rf
/-! Rg1: the context that the compiler's soundness asks. -/
namespace Rf
open PySem PySem.Spec PyProof.Rows L2 PySem.W
theorem plainE_eq (e : Expr) : plainE' e = plainE e := by cases e <;> rfl
theorem baseE_eq (e : Expr) : baseE' e = baseE e := by cases e <;> rfl
theorem truE_eq (e : Expr) : truE' e = truE e := by
  cases e <;> first | rfl | (rename_i op _ _; cases op <;> rfl)
mutual
theorem tgIn_eq (vs : List Nat) : ∀ t : Rf.T, tgIn' vs t = tgIn vs t
  | .nm i => rfl
  | .tp ts => tgsIn_eq vs ts
theorem tgsIn_eq (vs : List Nat) : ∀ ts : List Rf.T, tgsIn' vs ts = tgsIn vs ts
  | [] => rfl
  | t :: ts => by
    show (tgIn' vs t && tgsIn' vs ts) = (tgIn vs t && tgsIn vs ts)
    rw [tgIn_eq vs t, tgsIn_eq vs ts]
end
def blts : List Str := ["len", "abs", "int", "sum", "min", "max", "sorted", "tuple", "list", "all", "any", "range", "enumerate", "zip", "isinstance", "bool", "str", "reversed", "set"]
/-- a def of the module, as the evaluator's call answers -/
def FnG (X : Cx) (d : Nat) (T : List Addr) (x : Str) (k : Nat) (cl : Calls) : Prop := ∃ run, CallOk X d T x run ∧ ∀ ds r, cl.call k ds = some r → ∃ st', run (ds.map .d) [] = some (r, st')
structure Gd (X : Cx) (T : List Addr) (C : Cc) (sc : Scope) (cl : Calls) (d : Nat) : Prop where
  scp : X.env.scope = sc
  kind : sc.kind = .function
  calm : X.calm = true
  N : C.N = X.N
  nd : X.N.Nodup
  room : Room (d + 3 * C.lv) X.A
  glob : X.env.globals = mainGlobals
  wr : ∀ x, C.wr x = true → sc.names.lookup x = some .cell → X.fn x = true
  blt : ∀ x ∈ blts, posOf x C.fns 0 = none → X.mg x = none
  gcd : C.imp.contains "gcd" = true → X.mg "gcd" = some (.builtin "math.gcd")
  cmb : C.imp.contains "combinations" = true → X.mg "combinations" = some (.type "itertools.combinations")
  call : ∀ x k, posOf x C.fns 0 = some k → FnG X d T x k cl
  tab : C.lv ≠ 0 → ∃ c P, GxR.TabB X.base X.mg c P ∧ X.env.code = .ref c ∧ P ∈ T
section
variable {X : Cx} {T : List Addr} {C : Cc} {sc : Scope} {cl : Calls} {d : Nat}
theorem Gd.hu (G : Gd X T C sc cl d) : X.A.units + 100 < cLine := by have := G.room.un; omega
theorem Gd.gl (G : Gd X T C sc cl d) {g : Str} (h : isGl sc g = true) : Gl X g := by
  unfold isGl at h
  show X.env.scope.names.lookup g = _
  rw [G.scp]
  split at h
  · assumption
  · cases h
theorem posOf_at : ∀ {L : List Str} {x : Str} {k i : Nat}, posOf x L k = some i → k ≤ i ∧ L[i - k]? = some x
  | [], _, _, _, h => by cases h
  | y :: r, x, k, i, h => by
    unfold posOf at h
    split at h
    · rename_i e
      cases h
      exact ⟨Nat.le_refl _, by rw [Nat.sub_self, e]; rfl⟩
    · obtain ⟨h1, h2⟩ := posOf_at h
      refine ⟨by omega, ?_⟩
      rw [show i - k = (i - (k + 1)) + 1 by omega, List.getElem?_cons_succ]
      exact h2
theorem Gd.pos (G : Gd X T C sc cl d) {x : Str} {i : Nat} (h : posOf x C.N 0 = some i) : X.N[i]? = some x := by
  have := (posOf_at h).2
  rw [G.N] at this
  simpa using this
theorem Gd.slotR (G : Gd X T C sc cl d) {x : Str} {i : Nat} (h : Rf.slotR C sc x = some i) : X.N[i]? = some x ∧ Vis X.env.scope x ∧ okName x = true := by
  unfold Rf.slotR at h
  split at h
  · rename_i h1
    rw [Bool.and_eq_true] at h1
    refine ⟨G.pos h, ?_, h1.2⟩
    have h2 := h1.1
    unfold isVis at h2
    rw [G.scp]
    split at h2
    · exact .inl (by assumption)
    · exact .inr (.inl (by assumption))
    · exact .inr (.inr (by assumption))
    · cases h2
  · cases h
theorem Gd.slotW (G : Gd X T C sc cl d) {x : Str} {i : Nat} (h : Rf.slotW C sc x = some i) : X.N[i]? = some x ∧ Loc X.env.scope x ∧ (X.fn x = true ∨ X.env.scope.names.lookup x = some .local) := by
  unfold Rf.slotW at h
  rw [G.scp]
  split at h
  · rename_i h1
    exact ⟨G.pos h, .inl h1, .inr h1⟩
  · rename_i h1
    split at h
    · rename_i h2
      exact ⟨G.pos h, .inr h1, .inl (G.wr x h2 h1)⟩
    · cases h
  · cases h
/-! targets -/
theorem mapM_cons' {α β : Type} {f : α → Option β} {a : α} {as : List α} {bs : List β} (h : (a :: as).mapM f = some bs) : ∃ b bs', f a = some b ∧ as.mapM f = some bs' ∧ bs = b :: bs' := by
  rw [List.mapM_cons] at h
  cases h1 : f a with
  | none => rw [h1] at h; cases h
  | some b =>
    cases h2 : as.mapM f with
    | none => rw [h1, h2] at h; cases h
    | some bs' => rw [h1, h2] at h; cases h; exact ⟨b, bs', rfl, rfl, rfl⟩
theorem Gd.tg (G : Gd X T C sc cl d) : ∀ (n : Nat) {e : Expr} {t : Rf.T}, cTg C sc n e = some t → plainE e = true ∧ PG X e (tTg T t)
  | 0, _, _, h => by cases h
  | n + 1, e, t, h => by
    cases e with
    | Name x p =>
      simp only [cTg] at h
      cases h1 : Rf.slotW C sc x with
      | none => rw [h1] at h; cases h
      | some i =>
        rw [h1] at h
        cases h
        obtain ⟨a, b, c⟩ := G.slotW h1
        exact ⟨rfl, pg_nm G.nd a b c⟩
    | Tuple es k p =>
      simp only [cTg] at h
      cases h1 : es.mapM (cTg C sc n) with
      | none => rw [h1] at h; cases h
      | some ts =>
        rw [h1] at h
        cases h
        have key : ∀ (es : List Expr) (ts : List Rf.T), es.mapM (cTg C sc n) = some ts → es.all plainE = true ∧ es.length = ts.length ∧ PGs X es (tTgs T ts) := fun es => by
          induction es with
          | nil =>
            intro ts h
            cases h
            exact ⟨rfl, rfl, pgs_0⟩
          | cons a as ih =>
            intro ts h
            obtain ⟨b, bs, h1, h2, rfl⟩ := mapM_cons' h
            obtain ⟨i1, i2, i3⟩ := ih bs h2
            obtain ⟨p1, p2⟩ := Gd.tg G n h1
            exact ⟨by rw [List.all_cons, p1, i1]; rfl, by simp [i2], pgs_1 p1 p2 i3⟩
        obtain ⟨k1, k2, k3⟩ := key es ts h1
        exact ⟨rfl, pg_tp G.calm k1 k2 k3⟩
    | _ => cases h
/-! blocks -/
theorem blk_ok {N : List Str} {sc scope : Scope} {own : List (Str × Nat)} (h : blkB N sc scope own = true) : BlkOk N sc scope own := by
  unfold blkB at h
  simp only [Bool.and_eq_true, List.all_eq_true, decide_eq_true_eq] at h
  obtain ⟨⟨⟨h1, h2⟩, h3⟩, h4⟩ := h
  refine ⟨h1, h2, h3, fun y hy e => ?_, fun y hy e => ?_⟩
  · have := h4 y hy
    rw [e] at this
    simpa using this
  · have := h4 y hy
    rcases e with e | e <;>
      (rw [e] at this
       simp only [Bool.or_eq_true, List.contains_iff_mem, Bool.not_eq_true', ← Bool.not_eq_true] at this
       exact this)
theorem Gd.blk (G : Gd X T C sc cl d) {scope : Scope} (hk : scope.kind = .function) (s : Shared) (H : Hp) (A : Addr) (cs : List (Str × Addr)) (fp : List Addr) : Gd (X.blk s H scope (compEnvC scope cs A X.env) fp) T (inC C scope) (relB scope sc) cl d where
  scp := by rw [← G.scp]; rfl
  kind := hk
  calm := G.calm
  N := G.N
  nd := G.nd
  room := G.room
  glob := G.glob
  wr := fun x h _ => h
  blt := G.blt
  gcd := G.gcd
  cmb := G.cmb
  call := G.call
  tab := G.tab
theorem Gd.gen (G : Gd X T C sc cl d) {scope : Scope} {l : Nat} (hk : scope.kind = .function) (nc : ∀ y ∈ scope.names, y.2 ≠ .cell) (A : Around) (s : Shared) (H : Hp) (L : Addr) (c : Value) (fp : List Addr) (r : Room (d + 3 * l) A)
    (hc : l = 0) : Gd (gnCx X A s H (genEnv scope (cloFrom X.env.cells scope.names []) L c builtinsNs X.env) fp) T (inG C l scope) scope cl d where
  scp := rfl
  kind := hk
  calm := G.calm
  N := G.N
  nd := G.nd
  room := r
  glob := G.glob
  wr := fun x h h2 => absurd rfl (nc _ (PySem.mem_of_lookup h2))
  blt := G.blt
  gcd := G.gcd
  cmb := G.cmb
  call := G.call
  tab := fun h => absurd hc h
end
end Rf
/-! Rg2: the compiler's soundness: expressions, one level at a time. -/
namespace Rf
open PySem PySem.Spec PyProof.Rows L2 PySem.W
/-- what the compiler gives at fuel n has a reading -/
structure Snd (n : Nat) : Prop where
  E : ∀ {X : Cx} {T : List Addr} {C : Cc} {sc : Scope} {cl : Calls} {d : Nat} {box : Bool} {e : Expr} {e' : E}, Gd X T C sc cl d → kE C n sc box e = some e' → PE X e (tEv T (ev cl e'))
  Cm : ∀ {X : Cx} {T : List Addr} {C : Cc} {sc : Scope} {cl : Calls} {d : Nat} {box : Bool} {a : Expr} {ops : List CmpOp} {cs : List Expr} {p : Pos} {e' : Rf.E}, Gd X T C sc cl d → kE C n sc box (.Compare a ops cs p) = some e' → PT X (.Compare a ops cs p) (tTv T (ev cl e'))
  Ca : ∀ {X : Cx} {T : List Addr} {C : Cc} {sc : Scope} {cl : Calls} {d : Nat} {box : Bool} {f : Expr} {args : List Expr} {pos : Pos} {e' : Rf.E}, Gd X T C sc cl d → kCall C n sc box f args pos = some e' → PE X (.Call f args [] pos) (tEv T (ev cl e'))
  Me : ∀ {X : Cx} {T : List Addr} {C : Cc} {sc : Scope} {cl : Calls} {d : Nat} {o : Expr} {m : Str} {args : List Expr} {apos pos : Pos} {e' : Rf.E}, Gd X T C sc cl d → (apos.endLine == pos.line) = true → kMeth C n sc o m args = some e' → PE X (.Call (.Attribute o m apos) args [] pos) (tEv T (ev cl e'))
  Ge : ∀ {X : Cx} {T : List Addr} {C : Cc} {sc : Scope} {cl : Calls} {d : Nat} {g : Str} {a : Expr} {p pos : Pos} {e' : Rf.E}, Gd X T C sc cl d → isGl sc g = true → posOf g C.fns 0 = none → kGen C n sc g a = some e' → PE X (.Call (.Name g p) [a] [] pos) (tEv T (ev cl e'))
  Of : ∀ {X : Cx} {T : List Addr} {C : Cc} {sc : Scope} {cl : Calls} {d : Nat} {box : Bool} {g : Str} {a : Expr} {p pos : Pos} {e' : Rf.E}, Gd X T C sc cl d → isGl sc g = true → posOf g C.fns 0 = none → kOf C n sc box g a = some e' → PE X (.Call (.Name g p) [a] [] pos) (tEv T (ev cl e'))
  B : ∀ {X : Cx} {T : List Addr} {C : Cc} {sc : Scope} {cl : Calls} {d : Nat} {op : BoolOp} {v : Expr} {r : List Expr} {pos : Pos} {e' : Rf.E}, Gd X T C sc cl d → kBool C n sc op v r = some e' → PE X (.BoolOp op (v :: r) pos) (tEv T (ev cl e'))
  BT : ∀ {X : Cx} {T : List Addr} {C : Cc} {sc : Scope} {cl : Calls} {d : Nat} {op : BoolOp} {v : Expr} {r : List Expr} {pos : Pos} {e' : Rf.E}, Gd X T C sc cl d → kBoolT C n sc op v r = some e' → PW X (.BoolOp op (v :: r) pos) (tTv T (ev cl e'))
  T : ∀ {X : Cx} {T : List Addr} {C : Cc} {sc : Scope} {cl : Calls} {d : Nat} {e : Expr} {e' : Rf.E}, Gd X T C sc cl d → kT C n sc e = some e' → PT X e (tTv T (ev cl e'))
  Ts : ∀ {X : Cx} {T : List Addr} {C : Cc} {sc : Scope} {cl : Calls} {d : Nat} {es : List Expr} {fs : List Rf.E}, Gd X T C sc cl d → kTs C n sc es = some fs → PTs X es (tTs T (tests (evT cl fs)))
  Es : ∀ {X : Cx} {T : List Addr} {C : Cc} {sc : Scope} {cl : Calls} {d : Nat} {es : List Expr} {es' : List Rf.E}, Gd X T C sc cl d → kEs C n sc es = some es' → PA X es (tWs T (evW cl es')) ∧ PA X es (tDs T (evD cl es')) ∧ es.all plainE = true
  O : ∀ {X : Cx} {T : List Addr} {C : Cc} {sc : Scope} {cl : Calls} {d : Nat} {o : Option Expr} {o' : Option Rf.E}, Gd X T C sc cl d → kO C n sc o = some o' → PO X o (tOv T (evO cl o'))
  I : ∀ {X : Cx} {T : List Addr} {C : Cc} {sc : Scope} {cl : Calls} {d : Nat} {t e : Expr} {e' : Rf.E}, Gd X T C sc cl d → kI C n sc t e = some e' → PI X t e (tIv T (evF cl e'))
theorem plain_of {C : Cc} {n : Nat} {sc : Scope} {box : Bool} {e : Expr} {e' : E} (h : kE C n sc box e = some e') : plainE e = true := by
  cases n with
  | zero => cases h
  | succ n => cases e <;> first | rfl | (simp only [kE] at h; cases h)
section
variable {X : Cx} {T : List Addr} {C : Cc} {sc : Scope} {cl : Calls} {d n : Nat} {box : Bool} {e : Expr} {e' : E} {pos : Pos}
theorem rd_str {F : Hp} (s : Str) : RD F (.str s.cps.toList) (.str s) := by
  show V.str s = .str ⟨s.cps.toList.toArray⟩
  simp
theorem tr {a : Expr} (G : Gd X T C sc cl d) (S : Snd n) (h : kE C n sc box a = some e') : PE X a (tEv T (ev cl e')) := S.E G h
theorem snd_cmp (S : Snd n) (G : Gd X T C sc cl d) {a : Expr} {ops : List CmpOp} {cs : List Expr} (h : kE C (n + 1) sc box (.Compare a ops cs pos) = some e') : PE X (.Compare a ops cs pos) (tEv T (ev cl e')) ∧ PT X (.Compare a ops cs pos) (tTv T (ev cl e')) := by
  simp only [kE] at h
  split at h
  · split at h
    · rename_i h1 h2
      cases h
      exact ⟨pv_cmp G.hu (plain_of h2) (S.E G h1) (S.E G h2), pt_cmp' G.hu (plain_of h2) (S.E G h1) (S.E G h2)⟩
    · cases h
  · split at h
    · rename_i h1 h2 h3
      cases h
      exact ⟨pv_chain G.hu (plain_of h3) (S.E G h1) (S.E G h2) (S.E G h3), pt_chain' G.hu (plain_of h3) (S.E G h1) (S.E G h2) (S.E G h3)⟩
    · cases h
  · split at h
    · rename_i h1 h2 h3 h4
      cases h
      exact ⟨pv_chain3 G.hu (plain_of h4) (S.E G h1) (S.E G h2) (S.E G h3) (S.E G h4), pt_chain3' G.hu (plain_of h4) (S.E G h1) (S.E G h2) (S.E G h3) (S.E G h4)⟩
    · cases h
  · cases h
theorem snd_es (S : Snd n) (G : Gd X T C sc cl d) : ∀ {es : List Expr} {es' : List E}, kEs C (n + 1) sc es = some es' → PA X es (tWs T (evW cl es')) ∧ PA X es (tDs T (evD cl es')) ∧ es.all plainE = true := by
  intro es es' h
  simp only [kEs] at h
  split at h
  · cases h
    exact ⟨pa_W0, pa_D0, rfl⟩
  · split at h
    · rename_i h1 h2
      cases h
      obtain ⟨a, b, c⟩ := S.Es G h2
      have p := plain_of h1
      exact ⟨pa_W1 p (S.E G h1) a, pa_D1 p (S.E G h1) b, by rw [List.all_cons, p, c]; rfl⟩
    · cases h
theorem snd_slice (S : Snd n) (G : Gd X T C sc cl d) {a i : Expr} (h : kE C (n + 1) sc box (.Subscript a i pos) = some e') : PE X (.Subscript a i pos) (tEv T (ev cl e')) := by
  simp only [kE] at h
  split at h
  · split at h
    · split at h
      · rename_i h1 h2 h3
        cases h
        exact pv_slc (S.E G h1) (S.O G h2) (S.O G h3)
      · cases h
    · split at h
      · split at h
        · rename_i h1 h2
          cases h
          exact pv_slr (S.E G h1) (S.O G h2)
        · cases h
      · cases h
    · cases h
  · split at h
    · rename_i h1 h2
      cases h
      exact pv_ix G.hu (plain_of h2) (S.E G h1) (S.E G h2)
    · cases h
theorem snd_lc (S : Snd n) (G : Gd X T C sc cl d) {elt : Expr} {gens : List Comprehension} {scope : Scope} (h : kE C (n + 1) sc box (.ListComp elt gens scope pos) = some e') :
    ∃ t it ifs tg i elt' fs md, gens = [⟨t, it, ifs, 0⟩] ∧ e' = .pur md box (.comp elt' ((ownOf C scope).map (·.2)) tg i fs) ∧ plainE it = true ∧ PI X t it (tIv T (evF cl i)) ∧ BlkOk X.N X.env.scope scope (ownOf C scope) ∧ tgIn ((ownOf C scope).map (·.2)) tg = true ∧
      (∀ (s : Shared) (H : Hp) (C : Addr) (cl : List (Str × Addr)) (fp : List Addr), PG (X.blk s H scope (compEnvC scope cl C X.env) fp) t (tTg T tg)) ∧ (∀ (s : Shared) (H : Hp) (C : Addr) (cl' : List (Str × Addr)) (fp : List Addr), PTs (X.blk s H scope (compEnvC scope cl' C X.env) fp) ifs (tTs T (tests (evT cl fs)))) ∧
      (∀ (s : Shared) (H : Hp) (C : Addr) (cl' : List (Str × Addr)) (fp : List Addr), PE (X.blk s H scope (compEnvC scope cl' C X.env) fp) elt (tEv T (ev cl elt'))) := by
  simp only [kE] at h
  split at h
  · split at h
    · rename_i h1 h2 h3 h4
      split at h
      · rename_i h5
        cases h
        rw [Bool.and_eq_true, Bool.and_eq_true] at h5
        obtain ⟨⟨p1, p2⟩, p3⟩ := h5
        have ok := blk_ok p2
        have hk := ok.kind
        refine ⟨_, _, _, _, _, _, _, _, rfl, rfl, by rw [← plainE_eq]; exact p1, S.I G h1, by rw [G.scp, ← G.N]; exact ok, by rw [← tgIn_eq]; exact p3, fun s H A cs fp => ((G.blk hk s H A cs fp).tg 8 h2).2, fun s H A cs fp => S.Ts (G.blk hk s H A cs fp) h4, fun s H A cs fp => S.E (G.blk hk s H A cs fp) h3⟩
      · cases h
    · cases h
  · cases h
theorem snd_dc (S : Snd n) (G : Gd X T C sc cl d) {kx vx : Expr} {gens : List Comprehension} {scope : Scope} (h : kE C (n + 1) sc box (.DictComp kx vx gens scope pos) = some e') :
    ∃ t it ifs tg i k' v' fs md, gens = [⟨t, it, ifs, 0⟩] ∧ e' = .pur md box (.dcomp k' v' ((ownOf C scope).map (·.2)) tg i fs) ∧ plainE it = true ∧ PI X t it (tIv T (evF cl i)) ∧ BlkOk X.N X.env.scope scope (ownOf C scope) ∧ tgIn ((ownOf C scope).map (·.2)) tg = true ∧
      (∀ (s : Shared) (H : Hp) (C : Addr) (cl : List (Str × Addr)) (fp : List Addr), PG (X.blk s H scope (compEnvC scope cl C X.env) fp) t (tTg T tg)) ∧ (∀ (s : Shared) (H : Hp) (C : Addr) (cl' : List (Str × Addr)) (fp : List Addr), PTs (X.blk s H scope (compEnvC scope cl' C X.env) fp) ifs (tTs T (tests (evT cl fs)))) ∧
      (∀ (s : Shared) (H : Hp) (C : Addr) (cl' : List (Str × Addr)) (fp : List Addr), PE (X.blk s H scope (compEnvC scope cl' C X.env) fp) kx (tEv T (ev cl k'))) ∧ (∀ (s : Shared) (H : Hp) (C : Addr) (cl' : List (Str × Addr)) (fp : List Addr), PE (X.blk s H scope (compEnvC scope cl' C X.env) fp) vx (tEv T (ev cl v'))) := by
  simp only [kE] at h
  split at h
  · split at h
    · rename_i h1 h2 h3 h4 h5
      split at h
      · rename_i h6
        cases h
        rw [Bool.and_eq_true, Bool.and_eq_true] at h6
        obtain ⟨⟨p1, p2⟩, p3⟩ := h6
        have ok := blk_ok p2
        have hk := ok.kind
        refine ⟨_, _, _, _, _, _, _, _, _, rfl, rfl, by rw [← plainE_eq]; exact p1, S.I G h1, by rw [G.scp, ← G.N]; exact ok, by rw [← tgIn_eq]; exact p3, fun s H A cs fp => ((G.blk hk s H A cs fp).tg 8 h2).2, fun s H A cs fp => S.Ts (G.blk hk s H A cs fp) h5, fun s H A cs fp => S.E (G.blk hk s H A cs fp) h3, fun s H A cs fp => S.E (G.blk hk s H A cs fp) h4⟩
      · cases h
    · cases h
  · cases h
theorem snd_E (S : Snd n) (G : Gd X T C sc cl d) (h : kE C (n + 1) sc box e = some e') : PE X e (tEv T (ev cl e')) := by
  cases e with
  | Constant c k p =>
    simp only [kE] at h
    cases c with
    | none => cases h; exact pv_lit (t := fun _ _ _ => True) pe_non fun F => rfl
    | bool b => cases h; exact pv_lit (t := fun _ _ _ => True) pe_bl fun F => rfl
    | int i => cases h; exact pv_lit (t := fun _ _ _ => True) pe_int fun F => rfl
    | str s => cases h; exact pv_lit (t := fun _ _ _ => True) pe_str fun F => rd_str s
    | _ => cases h
  | Name x p =>
    simp only [kE] at h
    split at h
    · rename_i h1
      cases h
      obtain ⟨a, b, c⟩ := G.slotR h1
      exact pv_var a b c
    · cases h
  | Tuple es k p =>
    simp only [kE] at h
    split at h
    · rename_i h1
      split at h
      · rename_i h2
        cases h
        exact pv_tupA (S.Es G h1).2.1 (Nat.le_of_ble_eq_true h2)
      · cases h
    · cases h
  | List es p =>
    simp only [kE] at h
    split at h
    · rename_i h1
      split at h
      · rename_i h2
        cases h
        exact pv_lst (S.Es G h1).2.1 (Nat.le_of_ble_eq_true h2)
      · cases h
    · cases h
  | Dict ks vs p =>
    simp only [kE] at h
    split at h
    · cases h
      exact pv_dct0
    · split at h
      · rename_i h1 h2
        cases h
        exact pv_dct1 (S.E G h1) (S.E G h2)
      · cases h
    · cases h
  | BinOp a op b p =>
    simp only [kE] at h
    split at h
    · rename_i h1 h2 h3
      cases h
      exact pv_bin h1 (S.E G h2) (S.E G h3)
    · cases h
  | UnaryOp op a p =>
    simp only [kE] at h
    split at h
    · split at h
      · rename_i h1
        cases h
        exact pv_neg (S.E G h1)
      · cases h
    · split at h
      · rename_i h1
        cases h
        exact pv_not (S.E G h1)
      · cases h
    · cases h
  | Compare a ops cs p => exact (snd_cmp S G h).1
  | BoolOp op vs p =>
    simp only [kE] at h
    split at h
    · cases h
    · exact S.B G h
  | IfExp c a b p =>
    simp only [kE] at h
    split at h
    · rename_i h1 h2 h3
      cases h
      exact pv_ite (S.T G h1) (S.E G h2) (S.E G h3)
    · cases h
  | Subscript a i p => exact snd_slice S G h
  | ListComp elt gens scope p =>
    obtain ⟨t, it, ifs, tg, i, elt', fs, md, rfl, rfl, g1, g2, g3, g4, g5, g6, g7⟩ := snd_lc S G h
    exact pv_pur (pv_lc G.calm G.nd g1 g2 g3 g4 g5 g6 g7)
  | DictComp kx vx gens scope p =>
    obtain ⟨t, it, ifs, tg, i, k', v', fs, md, rfl, rfl, g1, g2, g3, g4, g5, g6, g7, g8⟩ := snd_dc S G h
    exact pv_pur (pv_dc (by have := G.hu; omega) G.calm G.nd g1 g2 g3 g4 g5 g6 g7 g8)
  | Call f args kws p =>
    simp only [kE] at h
    split at h
    · exact S.Ca G h
    · cases h
  | _ => simp only [kE] at h; cases h
end
end Rf
/-! Rg3: the compiler's soundness: tests, calls, methods, what is walked; all fuels. -/
namespace Rf
open PySem PySem.Spec PyProof.Rows L2 PySem.W
section
variable {X : Cx} {T : List Addr} {C : Cc} {sc : Scope} {cl : Calls} {d n : Nat} {box : Bool} {e : Expr} {e' : E} {pos : Pos}
theorem Gd.bl (G : Gd X T C sc cl d) {x : Str} (hx : x ∈ blts) (h : posOf x C.fns 0 = none) : X.mg x = none := G.blt x hx h
theorem snd_B (S : Snd n) (G : Gd X T C sc cl d) {op : BoolOp} {v : Expr} {r : List Expr} (h : kBool C (n + 1) sc op v r = some e') : PE X (.BoolOp op (v :: r) pos) (tEv T (ev cl e')) := by
  simp only [kBool] at h
  split at h
  · exact pv_one (S.E G h)
  · split at h
    · rename_i h1 h2
      split at h
      · cases h; exact pv_and (S.E G h1) (S.B G h2)
      · cases h; exact pv_or (S.E G h1) (S.B G h2)
    · cases h
theorem snd_BT (S : Snd n) (G : Gd X T C sc cl d) {op : BoolOp} {v : Expr} {r : List Expr} (h : kBoolT C (n + 1) sc op v r = some e') : PW X (.BoolOp op (v :: r) pos) (tTv T (ev cl e')) := by
  simp only [kBoolT] at h
  split at h
  · cases op with
    | And => exact pw_and1 (S.T G h)
    | Or => exact pw_or1 (S.T G h)
  · split at h
    · rename_i h1 h2
      split at h
      · cases h; exact pw_and' (S.T G h1) (S.BT G h2)
      · cases h; exact pw_or' (S.T G h1) (S.BT G h2)
    · cases h
theorem snd_T (S : Snd n) (G : Gd X T C sc cl d) (h : kT C (n + 1) sc e = some e') : PT X e (tTv T (ev cl e')) := by
  simp only [kT] at h
  split at h
  · split at h
    · cases h
    · exact (S.BT G h).pt
  · split at h
    · rename_i h1
      cases h
      exact pt_not' (S.T G h1)
    · cases h
  · exact S.Cm G h
  · split at h
    · rename_i h1 h2 h3
      cases h
      exact pt_ite' (S.T G h1) (S.T G h2) (S.T G h3)
    · cases h
  · split at h
    · rename_i h1 h2
      cases h
      exact pt_tru (by rw [← truE_eq]; exact h1) (S.E G h2)
    · cases h
theorem snd_Ts (S : Snd n) (G : Gd X T C sc cl d) {es : List Expr} {fs : List E} (h : kTs C (n + 1) sc es = some fs) : PTs X es (tTs T (tests (evT cl fs))) := by
  simp only [kTs] at h
  split at h
  · cases h; exact pts_0
  · split at h
    · rename_i h1
      cases h
      exact pts_1 (S.T G h1)
    · cases h
  · cases h
theorem snd_O (S : Snd n) (G : Gd X T C sc cl d) {o : Option Expr} {o' : Option E} (h : kO C (n + 1) sc o = some o') : PO X o (tOv T (evO cl o')) := by
  simp only [kO] at h
  split at h
  · cases h; exact po_0
  · split at h
    · rename_i h1
      cases h
      exact po_1 (S.E G h1)
    · cases h
theorem glb {g : Str} (h : (isGl sc g && (posOf g C.fns 0).isNone) = true) : isGl sc g = true ∧ posOf g C.fns 0 = none := by
  rw [Bool.and_eq_true, Option.isNone_iff_eq_none] at h
  exact h
theorem isBi_ok {x y : Str} (h : isBi C sc x y = true) : x = y ∧ isGl sc x = true ∧ posOf x C.fns 0 = none := by
  unfold isBi at h
  rw [Bool.and_eq_true, Bool.and_eq_true, Option.isNone_iff_eq_none] at h
  exact ⟨of_decide_eq_true h.1.1, h.1.2, h.2⟩
theorem snd_I (S : Snd n) (G : Gd X T C sc cl d) {t : Expr} (h : kI C (n + 1) sc t e = some e') : PI X t e (tIv T (evF cl e')) := by
  simp only [kI] at h
  split at h
  · split at h
    · rename_i hg
      obtain ⟨g1, g2⟩ := glb hg
      split at h
      · rename_i hr
        have hr := of_decide_eq_true hr
        subst hr
        split at h
        · rename_i h1
          cases h
          exact pi_rng1 (G.gl g1) (G.bl (by decide) g2) (plain_of h1) (S.E G h1)
        · cases h
      · rename_i hr
        have hr := of_decide_eq_true hr
        subst hr
        split at h
        · rename_i h1 h2
          cases h
          exact pi_rng2 (G.gl g1) (G.bl (by decide) g2) (plain_of h1) (plain_of h2) (S.E G h1) (S.E G h2)
        · cases h
      · rename_i hr
        have hr := of_decide_eq_true hr
        subst hr
        split at h
        · rename_i h1 h2 h3
          cases h
          exact pi_rng3 (G.gl g1) (G.bl (by decide) g2) (plain_of h1) (plain_of h2) (plain_of h3) (S.E G h1) (S.E G h2) (S.E G h3)
        · cases h
      · cases h
      · split at h
        · rename_i hr
          have hr := of_decide_eq_true hr
          subst hr
          split at h
          · rename_i h1
            cases h
            exact pi_en (G.gl g1) (G.bl (by decide) g2) (plain_of h1) (S.E G h1)
          · cases h
        · cases h
        · split at h
          · rename_i hr
            have hr := of_decide_eq_true hr
            subst hr
            split at h
            · rename_i h1 h2
              cases h
              exact pi_zp (G.gl g1) (G.bl (by decide) g2) (plain_of h1) (plain_of h2) (S.E G h1) (S.E G h2)
            · cases h
          · cases h
          · split at h
            · rename_i hr
              rw [Bool.and_eq_true] at hr
              have hr1 := of_decide_eq_true hr.1
              subst hr1
              split at h
              · rename_i h0 h1 h2
                cases h
                obtain ⟨e2, g3, g4⟩ := isBi_ok h0
                subst e2
                exact pi_cmb1 G.calm (G.gl g1) (G.cmb hr.2) (G.gl g3) (G.bl (by decide) g4) (plain_of h1) (plain_of h2) (S.E G h1) (S.E G h2)
              · cases h
            · cases h
            · split at h
              · rename_i h1
                cases h
                exact pi_walk (S.E G h1)
              · cases h
    · split at h
      · rename_i h1
        cases h
        exact pi_walk (S.E G h1)
      · cases h
  · split at h
    · rename_i h1
      cases h
      exact pi_walk (S.E G h1)
    · cases h
theorem snd_call (S : Snd n) (G : Gd X T C sc cl d) {g : Str} {args : List Expr} {es : List E} {k : Nat} {p : Pos} (hg : isGl sc g = true) (ho : okName g = true) (hk : posOf g C.fns 0 = some k) (h : kEs C n sc args = some es) : PE X (.Call (.Name g p) args [] pos) (tEv T (ev cl (.call k es))) := by
  obtain ⟨run, ok, hc⟩ := G.call g k hk
  have hr : Room d X.A := G.room.mono (by omega)
  cases args with
  | nil =>
    cases n with
    | zero => cases h
    | succ n =>
      cases h
      exact pv_call0 hc ok hr (G.gl hg) ho
  | cons a as =>
    obtain ⟨h1, _, h3⟩ := S.Es G h
    exact pv_call hc ok hr (G.gl hg) ho h3 h1
theorem snd_prim1 (S : Snd n) (G : Gd X T C sc cl d) {g : Str} {a : Expr} {a' : E} {p : Prim} {q : Pos} (hg : isGl sc g = true) (hk : posOf g C.fns 0 = none) (hp : prim1 g = some p) (h : kE C n sc false a = some a') : PE X (.Call (.Name g q) [a] [] pos) (tEv T (ev cl (.prim p box [a']))) := by
  have pa := plain_of h
  have ha := S.E G h
  unfold prim1 at hp
  split at hp
  · rename_i e; subst e; cases hp; exact pv_unB rfl pr_len (G.gl hg) (G.bl (by decide) hk) (by decide +kernel) (by decide) (by decide) pa ha
  split at hp
  · rename_i e; subst e; cases hp; exact pv_unB rfl pr_abs (G.gl hg) (G.bl (by decide) hk) (by decide +kernel) (by decide) (by decide) pa ha
  split at hp
  · rename_i e; subst e; cases hp; exact pv_unT rfl pr_int (G.gl hg) (G.bl (by decide) hk) (by decide +kernel) (by decide) (by decide) pa ha
  split at hp
  · rename_i e; subst e; cases hp; exact pv_unB rfl (pr_sum G.calm) (G.gl hg) (G.bl (by decide) hk) (by decide +kernel) (by decide) (by decide) pa ha
  split at hp
  · rename_i e; subst e; cases hp; exact pv_unB rfl (pr_min1 G.calm G.hu) (G.gl hg) (G.bl (by decide) hk) (by decide +kernel) (by decide) (by decide) pa ha
  split at hp
  · rename_i e; subst e; cases hp; exact pv_unB rfl (pr_max1 G.calm G.hu) (G.gl hg) (G.bl (by decide) hk) (by decide +kernel) (by decide) (by decide) pa ha
  split at hp
  · rename_i e; subst e; cases hp; exact pv_unB rfl (pr_sorted G.calm G.hu) (G.gl hg) (G.bl (by decide) hk) (by decide +kernel) (by decide) (by decide) pa ha
  split at hp
  · rename_i e; subst e; cases hp; exact pv_unT rfl pr_tuple (G.gl hg) (G.bl (by decide) hk) (by decide +kernel) (by decide) (by decide) pa ha
  split at hp
  · rename_i e; subst e; cases hp; exact pv_unT rfl pr_list (G.gl hg) (G.bl (by decide) hk) (by decide +kernel) (by decide) (by decide) pa ha
  split at hp
  · rename_i e; subst e; cases hp; exact pv_unB rfl (pr_all G.calm) (G.gl hg) (G.bl (by decide) hk) (by decide +kernel) (by decide) (by decide) pa ha
  split at hp
  · rename_i e; subst e; cases hp; exact pv_unB rfl (pr_any G.calm) (G.gl hg) (G.bl (by decide) hk) (by decide +kernel) (by decide) (by decide) pa ha
  · cases hp
theorem snd_prim2 (S : Snd n) (G : Gd X T C sc cl d) {g : Str} {a b : Expr} {a' b' : E} {p : Prim} {q : Pos} (hg : isGl sc g = true) (hk : posOf g C.fns 0 = none) (hp : prim2 g = some p) (h : kE C n sc false a = some a') (h2 : kE C n sc false b = some b') : PE X (.Call (.Name g q) [a, b] [] pos) (tEv T (ev cl (.prim p box [a', b']))) := by
  have pa := plain_of h
  have ha := S.E G h
  have pb := plain_of h2
  have hb := S.E G h2
  unfold prim2 at hp
  split at hp
  · rename_i e; subst e; cases hp; exact pv_biB rfl (pr_min2 G.calm G.hu) (G.gl hg) (G.bl (by decide) hk) (by decide +kernel) (by decide) (by decide) pa pb ha hb
  split at hp
  · rename_i e; subst e; cases hp; exact pv_biB rfl (pr_max2 G.calm G.hu) (G.gl hg) (G.bl (by decide) hk) (by decide +kernel) (by decide) (by decide) pa pb ha hb
  · cases hp
theorem snd_is (S : Snd n) (G : Gd X T C sc cl d) {a : Expr} {a' : E} {t : Str} {p : Prim} {q q2 : Pos} (hg : isGl sc "isinstance" = true) (hk : posOf "isinstance" C.fns 0 = none) (ht : isGl sc t = true) (hk2 : posOf t C.fns 0 = none) (hp : isiOf t = some p) (h : kE C n sc false a = some a') :
    PE X (.Call (.Name "isinstance" q) [a, .Name t q2] [] pos) (tEv T (ev cl (.prim p box [a']))) := by
  have pa := plain_of h
  have ha := S.E G h
  unfold isiOf at hp
  split at hp
  · rename_i e; subst e; cases hp; exact pv_is .int (G.gl hg) (G.bl (by decide) hk) (G.gl ht) (G.bl (by decide) hk2) pa ha
  split at hp
  · rename_i e; subst e; cases hp; exact pv_is .bool (G.gl hg) (G.bl (by decide) hk) (G.gl ht) (G.bl (by decide) hk2) pa ha
  split at hp
  · rename_i e; subst e; cases hp; exact pv_is .str (G.gl hg) (G.bl (by decide) hk) (G.gl ht) (G.bl (by decide) hk2) pa ha
  split at hp
  · rename_i e; subst e; cases hp; exact pv_is .tuple (G.gl hg) (G.bl (by decide) hk) (G.gl ht) (G.bl (by decide) hk2) pa ha
  · cases hp
theorem snd_Ca (S : Snd n) (G : Gd X T C sc cl d) {f : Expr} {args : List Expr} (h : kCall C (n + 1) sc box f args pos = some e') : PE X (.Call f args [] pos) (tEv T (ev cl e')) := by
  simp only [kCall] at h
  split at h
  · split at h
    · cases h
    · rename_i hgo
      rw [Bool.and_eq_true] at hgo
      obtain ⟨hg, ho⟩ := hgo
      split at h
      · rename_i hk
        split at h
        · cases h
        · split at h
          · rename_i h1
            cases h
            exact snd_call S G hg ho hk h1
          · cases h
      · rename_i hk
        split at h
        · split at h
          · exact S.Ge G hg hk h
          · split at h
            · rename_i h1
              cases h
              exact S.Of G hg hk h1
            · split at h
              · rename_i h1 h2
                cases h
                exact snd_prim1 S G hg hk h1 h2
              · cases h
        · split at h
          · rename_i hd
            rw [Bool.and_eq_true] at hd
            have hd1 := of_decide_eq_true hd.1
            subst hd1
            split at h
            · rename_i h1 h2
              cases h
              exact pv_gcd (G.gl hg) (G.gcd hd.2) (by decide) (plain_of h1) (plain_of h2) (S.E G h1) (S.E G h2)
            · cases h
          · split at h
            · rename_i hd
              have hd := of_decide_eq_true hd
              subst hd
              split at h
              · split at h
                · rename_i h1 h2 h3
                  cases h
                  obtain ⟨g1, g2⟩ := glb h1
                  exact snd_is S G hg hk g1 g2 h2 h3
                · cases h
              · cases h
            · split at h
              · rename_i h1 h2 h3
                cases h
                exact snd_prim2 S G hg hk h1 h2 h3
              · cases h
        · cases h
  · split at h
    · cases h
    · rename_i hl
      exact S.Me G hl h
  · cases h
theorem meth1_P {m : Str} {p : Prim} (h : meth1 m = some p) : methP p = some m := by
  unfold meth1 at h
  split at h
  · rename_i e; subst e; cases h; rfl
  split at h
  · rename_i e; subst e; cases h; rfl
  split at h
  · rename_i e; subst e; cases h; rfl
  · cases h
theorem snd_Me (S : Snd n) (G : Gd X T C sc cl d) {o : Expr} {m : Str} {args : List Expr} {apos : Pos} (hl : (apos.endLine == pos.line) = true) (h : kMeth C (n + 1) sc o m args = some e') : PE X (.Call (.Attribute o m apos) args [] pos) (tEv T (ev cl e')) := by
  simp only [kMeth] at h
  split at h
  · split at h
    · rename_i hm
      have hm := of_decide_eq_true hm
      subst hm
      split at h
      · rename_i h1
        cases h
        obtain ⟨a, b, c⟩ := G.slotR h1
        exact pv_pop hl a b c
      · cases h
    · cases h
  · split at h
    · rename_i hm
      have hm := of_decide_eq_true hm
      subst hm
      split at h
      · split at h
        · rename_i h1 h2
          cases h
          obtain ⟨a, b, c⟩ := G.slotR h1
          exact pv_push hl (plain_of h2) a b c (S.E G h2)
        · cases h
      · cases h
    · split at h
      · rename_i hm
        have hm := of_decide_eq_true hm
        subst hm
        split at h
        · split at h
          · rename_i h1 h2
            cases h
            obtain ⟨a, b, c⟩ := G.slotR h1
            exact pv_extend hl (plain_of h2) a b c (S.E G h2)
          · cases h
        · cases h
      · split at h
        · rename_i hm
          have hm := of_decide_eq_true hm
          subst hm
          split at h
          · rename_i h1 h2 h3
            cases h
            exact pv_get1 G.hu (by rw [← baseE_eq]; exact h1) hl (plain_of h3) (S.E G h2) (S.E G h3)
          · cases h
        · split at h
          · rename_i h1 h2 h3 h4
            cases h
            exact pv_meth G.hu (meth1_P h1) (S.E G h3) (base_of (by rw [← baseE_eq]; exact h2) _ _) hl (plain_of h4) (S.E G h4)
          · cases h
  · split at h
    · rename_i hm
      have hm := of_decide_eq_true hm
      subst hm
      split at h
      · rename_i h1 h2 h3 h4
        cases h
        exact pv_get2 G.hu (by rw [← baseE_eq]; exact h1) hl (plain_of h3) (plain_of h4) (S.E G h2) (S.E G h3) (S.E G h4)
      · cases h
    · cases h
  · cases h
theorem genFold_plain {it : Expr} (h : plainI it = true) (env : PySem.Env) (v : Value) : genFold it env v = pure v := by
  cases it <;> first | rfl | cases h
theorem snd_Ge (S : Snd n) (G : Gd X T C sc cl d) {g : Str} {a : Expr} {p : Pos} (hg : isGl sc g = true) (hk : posOf g C.fns 0 = none) (h : kGen C (n + 1) sc g a = some e') : PE X (.Call (.Name g p) [a] [] pos) (tEv T (ev cl e')) := by
  simp only [kGen] at h
  split at h
  · cases h
  · rename_i hl
    have hl : C.lv = 1 := Nat.eq_of_beq_eq_true hl
    split at h
    · rename_i elt gens scope gp
      split at h
      · split at h
        · rename_i h1 h2 h3 h4
          split at h
          · rename_i h5
            simp only [Bool.and_eq_true] at h5
            obtain ⟨⟨⟨p1, p2⟩, p3⟩, p4⟩ := h5
            unfold genB at p4
            simp only [Bool.and_eq_true, Bool.not_eq_true', List.all_eq_true, decide_eq_true_eq] at p4
            obtain ⟨⟨q1, q2⟩, q3⟩ := p4
            have ok := blk_ok p2
            have ok' := ok
            rw [← G.scp, G.N] at ok
            have nc : ∀ y ∈ scope.names, y.2 ≠ NameKind.cell := fun y hy z => by
              have := q2 y hy
              rw [z] at this
              cases this
            obtain ⟨c, P, TB, hcode, hP⟩ := G.tab (by omega)
            have hr : Room ((d + 3 * 0) + 3) X.A := by
              have := G.room
              rw [hl] at this
              exact this.mono (by omega)
            have key : ∀ stop : Bool, isGl sc (if stop then "any" else "all") = true → posOf (if stop then "any" else "all") C.fns 0 = none → PE X (.Call (.Name (if stop then "any" else "all") p) [.GeneratorExp _ [⟨_, _, _, 0⟩] scope gp] [] pos) (tEv T (ev cl (.pur true false (quE stop _ ((ownOf C _).map (·.2)) _ _ _)))) := fun stop hg hk =>
              (pe_qu (k := d + 3 * 0) (stop := stop) G.calm hr G.nd G.glob (G.gl hg) (G.bl (by cases stop <;> decide) hk) TB hcode q1 nc q3 ok (S.I G h1) (genFold_plain p1 X.env)
                (fun A s H L code fp r => ((G.gen ok'.kind nc A s H L code fp r rfl).tg 8 h2).2) (fun A s H L code fp r => S.Ts (G.gen ok'.kind nc A s H L code fp r rfl) h4) (fun A s H L code fp r => S.E (G.gen ok'.kind nc A s H L code fp r rfl) h3)).mono
                fun σ H Q h => qu_stepP hP (by rw [← tgIn_eq]; exact p3) (pur_step h)
            split at h
            · rename_i e
              subst e
              cases h
              exact key false hg hk
            · split at h
              · rename_i e
                subst e
                cases h
                exact key true hg hk
              · cases h
          · cases h
        · cases h
      · split at h
        · rename_i h1 h2 h4
          split at h
          · rename_i k1 k2 k4 h3
            split at h
            · rename_i h5
              simp only [Bool.and_eq_true, List.all_eq_true] at h5
              obtain ⟨⟨⟨⟨p1, p2⟩, p3⟩, p4⟩, ⟨p5, p6⟩, p7⟩ := h5
              unfold genB at p4
              simp only [Bool.and_eq_true, Bool.not_eq_true', List.all_eq_true, decide_eq_true_eq] at p4
              obtain ⟨⟨q1, q2⟩, q3⟩ := p4
              have ok := blk_ok p2
              have ok' := ok
              rw [← G.scp, G.N] at ok
              have nc : ∀ y ∈ scope.names, y.2 ≠ NameKind.cell := fun y hy z => by
                have := q2 y hy
                rw [z] at this
                cases this
              obtain ⟨c, P, TB, hcode, hP⟩ := G.tab (by omega)
              have hr : Room ((d + 3 * 0) + 3) X.A := by
                have := G.room
                rw [hl] at this
                exact this.mono (by omega)
              have key : ∀ stop : Bool, isGl sc (if stop then "any" else "all") = true → posOf (if stop then "any" else "all") C.fns 0 = none → PE X (.Call (.Name (if stop then "any" else "all") p) [gen2 _ _ _ _ _ _ _ scope gp] [] pos) (tEv T (ev cl (.pur true false (quE2 stop _ ((ownOf C _).map (·.2)) (tgS _) _ _ _ _ _ _)))) := fun stop hg hk =>
                (pe_qu2 (k := d + 3 * 0) (stop := stop) G.calm hr G.nd G.glob (G.gl hg) (G.bl (by cases stop <;> decide) hk) TB hcode q1 nc q3 ok (S.I G h1) (genFold_plain p1 X.env) (by rw [← plainE_eq]; exact p5) (fun b hb => List.contains_iff_mem.mp (p7 b hb))
                  (fun A s H L code fp r => ((G.gen ok'.kind nc A s H L code fp r rfl).tg 8 h2).2) (fun A s H L code fp r => S.Ts (G.gen ok'.kind nc A s H L code fp r rfl) h4)
                  (fun A s H L code fp r => S.I (G.gen ok'.kind nc A s H L code fp r rfl) k1) (fun A s H L code fp r => ((G.gen ok'.kind nc A s H L code fp r rfl).tg 8 k2).2) (fun A s H L code fp r => S.Ts (G.gen ok'.kind nc A s H L code fp r rfl) k4)
                  (fun A s H L code fp r => S.E (G.gen ok'.kind nc A s H L code fp r rfl) h3)).mono
                  fun σ H Q h => qu2_stepP hP (by rw [← tgIn_eq]; exact p3) (by rw [← tgIn_eq]; exact p6) (pur_step h)
              split at h
              · rename_i e
                subst e
                cases h
                exact key false hg hk
              · split at h
                · rename_i e
                  subst e
                  cases h
                  exact key true hg hk
                · cases h
            · cases h
          · cases h
        · cases h
      · cases h
    · cases h
theorem snd_Of (S : Snd n) (G : Gd X T C sc cl d) {g : Str} {a : Expr} {p : Pos} (hg : isGl sc g = true) (hk : posOf g C.fns 0 = none) (h : kOf C (n + 1) sc box g a = some e') : PE X (.Call (.Name g p) [a] [] pos) (tEv T (ev cl e')) := by
  have bi : ∀ {x y : Str}, isBi C sc x y = true → x = y ∧ isGl sc x = true ∧ posOf x C.fns 0 = none := fun {x y} h => by
    unfold isBi at h
    rw [Bool.and_eq_true, Bool.and_eq_true, Option.isNone_iff_eq_none] at h
    exact ⟨of_decide_eq_true h.1.1, h.1.2, h.2⟩
  have gt : ∀ {b1 b2 : Bool}, decide (g = "list") = b1 → decide (g = "tuple") = b2 → (b1 = true ∨ b2 = true) → g = (if decide (g = "tuple") then ("tuple" : Str) else ("list" : Str)) := fun {b1 b2} h1 h2 h => by
    by_cases e : g = "tuple"
    · rw [if_pos (decide_eq_true e)]; exact e
    · rw [if_neg (by simpa using e)]
      rcases h with h | h
      · rw [h] at h1; exact of_decide_eq_true h1
      · rw [h] at h2; exact absurd (of_decide_eq_true h2) e
  simp only [kOf] at h
  split at h
  · cases h
  · rename_i b1 b2 hn
    have e := gt rfl rfl (by
      by_cases e1 : g = "list"
      · exact .inl (decide_eq_true e1)
      · by_cases e2 : g = "tuple"
        · exact .inr (decide_eq_true e2)
        · exact absurd (decide_eq_false e2) (hn (decide_eq_false e1)))
    have hm : X.mg (if decide (g = "tuple") then ("tuple" : Str) else ("list" : Str)) = none := by
      rw [← e]
      refine G.bl ?_ hk
      rw [e]
      split <;> decide
    have hg' : Gl X (if decide (g = "tuple") then ("tuple" : Str) else ("list" : Str)) := by rw [← e]; exact G.gl hg
    split at h
    · rename_i hh p2 hargs pos2
      split at h
      · rename_i hb
        obtain ⟨e2, g1, g2⟩ := bi hb
        subst e2
        split at h
        · rename_i h1
          cases h
          have := pv_ofRg1 (T := T) (p := p) (pos := pos) (p2 := p2) (pos2 := pos2) (tup := decide (g = "tuple")) (box := box) G.calm hg' hm (G.gl g1) (G.bl (by decide) g2) (plain_of h1) (S.E G h1)
          rw [← e] at this
          exact this
        · cases h
      · rename_i hb
        obtain ⟨e2, g1, g2⟩ := bi hb
        subst e2
        split at h
        · rename_i h1 h2
          cases h
          have := pv_ofRg2 (T := T) (p := p) (pos := pos) (p2 := p2) (pos2 := pos2) (tup := decide (g = "tuple")) (box := box) G.calm hg' hm (G.gl g1) (G.bl (by decide) g2) (plain_of h1) (plain_of h2) (S.E G h1) (S.E G h2)
          rw [← e] at this
          exact this
        · cases h
      · cases h
      · split at h
        · rename_i hb
          rw [Bool.and_eq_true, Bool.and_eq_true] at hb
          obtain ⟨e2, g1, g2⟩ := bi hb.1.1
          have e3 := of_decide_eq_true hb.2
          subst e2 e3
          split at h
          · rename_i h0 h1 h2
            cases h
            obtain ⟨e4, g3, g4⟩ := bi h0
            subst e4
            exact pv_ofCmb (T := T) (p3 := p) (pos3 := pos) (p := p2) (pos := pos2) G.calm (G.gl hg) (G.bl (by decide) hk) (G.gl g1) (G.cmb hb.1.2) (G.gl g3) (G.bl (by decide) g4) (plain_of h1) (plain_of h2) (S.E G h1) (S.E G h2)
          · cases h
        · cases h
    · cases h
end
theorem snd : ∀ n : Nat, Snd n
  | 0 => ⟨fun _ h => (by cases h), fun _ h => (by cases h), fun _ h => (by cases h), fun _ _ h => (by cases h), fun _ _ _ h => (by cases h), fun _ _ _ h => (by cases h), fun _ h => (by cases h), fun _ h => (by cases h), fun _ h => (by cases h), fun _ h => (by cases h), fun _ h => (by cases h), fun _ h => (by cases h), fun _ h => (by cases h)⟩
  | n + 1 => ⟨fun G h => snd_E (snd n) G h, fun G h => (snd_cmp (snd n) G h).2, fun G h => snd_Ca (snd n) G h, fun G hl h => snd_Me (snd n) G hl h, fun G hg hk h => snd_Ge (snd n) G hg hk h, fun G hg hk h => snd_Of (snd n) G hg hk h, fun G h => snd_B (snd n) G h, fun G h => snd_BT (snd n) G h, fun G h => snd_T (snd n) G h, fun G h => snd_Ts (snd n) G h, fun G h => snd_es (snd n) G h, fun G h => snd_O (snd n) G h, fun G h => snd_I (snd n) G h⟩
end Rf
/-! Rg4: the compiler's soundness: statements. -/
namespace Rf
open PySem PySem.Spec PyProof.Rows L2 PySem.W
section
variable {X : Cx} {T : List Addr} {C : Cc} {sc : Scope} {cl : Calls} {d n : Nat} {pos : Pos}
theorem Gd.block (G : Gd X T C sc cl d) : X.env.blockKind = .function := by
  unfold Env.blockKind
  rw [G.scp, G.kind]
  rfl
theorem Gd.swap (G : Gd X T C sc cl d) (e : Expr) (x : Str) (p : Pos) (line : Nat) : swapsWith e (some (.Name x p)) line X.env = pure (swapB sc e x p.line) := by
  have hb := G.block
  have hk : ∀ y, X.env.kindOf y = sc.names.lookup y := fun y => by rw [← G.scp]; rfl
  have hd : ∀ y, (X.env.kindOf y == some NameKind.local) = decide (sc.names.lookup y = some NameKind.local) := fun y => by
    rw [hk]
    cases h : sc.names.lookup y with
    | none => rfl
    | some k => cases k <;> rfl
  have hf : (ScopeKind.function == ScopeKind.function) = true := rfl
  cases e <;> first
    | rfl
    | (simp only [swapsWith, swapB, hb, hd, hf, Bool.true_and]; rfl)
theorem swap_tuple (e : Expr) (ts : List Expr) (k : Nat) (p : Pos) (line : Nat) (env : PySem.Env) : swapsWithSole [.Tuple ts k p] e line env = pure false := by cases e <;> rfl
theorem swap_sub (e a b : Expr) (p : Pos) (line : Nat) (env : PySem.Env) : swapsWithSole [.Subscript a b p] e line env = pure false := by cases e <;> rfl
theorem stores_sub (e a b : Expr) (p : Pos) (env : PySem.Env) : swappedStores [.Subscript a b p] e env = pure none := by cases e <;> rfl
theorem stores_plain (e : Expr) (ts : List Expr) (k : Nat) (p : Pos) (env : PySem.Env) (h : ∀ vs a b, e ≠ .Tuple vs a b) : swappedStores [.Tuple ts k p] e env = pure none := by
  cases e <;> first | rfl | exact absurd rfl (h _ _ _)
theorem Gd.stores (G : Gd X T C sc cl d) {ts vs : List Expr} {k k2 : Nat} {p p2 : Pos} {r : Option (List Str)} (h : swapSt sc ts vs = some r) : swappedStores [.Tuple ts k p] (.Tuple vs k2 p2) X.env = pure r := by
  have hb := G.block
  have hk : ∀ y, X.env.kindOf y = sc.names.lookup y := fun y => by rw [← G.scp]; rfl
  have hs : (fun e : Expr => match e with | .Starred .. => true | _ => false) = isStar := by funext e; cases e <;> rfl
  have hn : ∀ line, (fun e : Expr => match e with | .Name id pos => if X.env.kindOf id == some .local && pos.line == line then some id else none | _ => none) = tgName sc line := fun line => by
    funext e
    cases e <;> first | rfl | (simp only [tgName, hk])
  have hne : (X.env.blockKind != ScopeKind.function) = false := by rw [hb]; rfl
  unfold swapSt at h
  show (do
    if !(ts.length == 2 || ts.length == 3) || vs.length != ts.length || X.env.blockKind != .function then return none
    if vs.any (fun e : Expr => match e with | .Starred .. => true | _ => false) then return none
    let line := (ts.head?.map (·.pos.line)).getD 0
    let names := ts.filterMap (fun e : Expr => match e with | .Name id pos => if X.env.kindOf id == some .local && pos.line == line then some id else none | _ => none)
    if names.length != ts.length || names.eraseDups.length != names.length then return none
    if vs.all (foldedForSure 8) then return none
    if vs.all (constantsAlone 8) then unsupported "assign.tuple-of-constant-expressions:order-of-the-stores"
    return some names : Sem (Option (List Str))) = pure r
  rw [hs]
  dsimp only
  rw [hn, hne, Bool.or_false]
  split at h
  · rename_i c; cases h; simp only [c, if_true]
  rename_i c1
  simp only [c1, if_false]
  split at h
  · rename_i c; cases h; simp only [c, if_true]; rfl
  rename_i c2
  simp only [c2, if_false]
  split at h
  · rename_i c; cases h; simp only [c, if_true]; rfl
  rename_i c3
  simp only [c3, if_false]
  split at h
  · rename_i c; cases h; simp only [c, if_true]; rfl
  rename_i c4
  simp only [c4, if_false]
  split at h
  · cases h
  rename_i c5
  cases h
  simp only [c5, if_false]
  rfl
theorem kEs_len : ∀ {n : Nat} {es : List Expr} {es' : List E}, kEs C n sc es = some es' → es'.length = es.length
  | 0, _, _, h => by cases h
  | n + 1, es, es', h => by
    simp only [kEs] at h
    split at h
    · cases h; rfl
    · split at h
      · rename_i h1 h2
        cases h
        simp [kEs_len h2]
      · cases h
theorem tgName_inv {line : Nat} {t : Expr} {x : Str} (h : tgName sc line t = some x) : ∃ p, t = .Name x p ∧ sc.names.lookup x = some .local := by
  unfold tgName at h
  split at h
  · split at h
    · rename_i id p hc
      cases h
      rw [Bool.and_eq_true] at hc
      refine ⟨p, rfl, ?_⟩
      have := hc.1
      cases hl : sc.names.lookup x with
      | none => rw [hl] at this; cases this
      | some k => rw [hl] at this; cases k <;> first | rfl | cases this
    · cases h
  · cases h
theorem swap_names {ts vs : List Expr} {names : List Str} (h : swapSt sc ts vs = some (some names)) : (ts.length = 2 ∨ ts.length = 3) ∧ vs.length = ts.length ∧ ∃ line, names = ts.filterMap (tgName sc line) ∧ names.length = ts.length := by
  unfold swapSt at h
  split at h
  · cases h
  rename_i c1
  split at h
  · cases h
  split at h
  · cases h
  rename_i c3
  split at h
  · cases h
  split at h
  · cases h
  cases h
  simp only [Bool.or_eq_true, Bool.not_eq_true', not_or, Bool.not_eq_true, bne_eq_false_iff_eq, Bool.not_eq_false] at c1 c3
  simp only [Bool.or_eq_false_iff, Bool.or_eq_true, beq_iff_eq] at c1
  refine ⟨?_, c1.2, _, rfl, c3.1⟩
  have := c1.1
  simpa using this
theorem Gd.par (G : Gd X T C sc cl d) {ts vs : List Expr} {k k2 : Nat} {p p2 : Pos} {names : List Str} {is : List Nat} {es' : List E} (h : swapSt sc ts vs = some (some names)) (hs : slotsL C sc names = some is) (he : kEs C 100 sc vs = some es') (hn : names.Nodup) :
    PS X (.Assign [.Tuple ts k p] (.Tuple vs k2 p2) pos) (tSx T (ex cl (.par is es'))) := by
  obtain ⟨h1, h2, line, h3, h4⟩ := swap_names h
  have hst := G.stores (k := k) (k2 := k2) (p := p) (p2 := p2) h
  have hA := ((snd 100).Es G he).1
  have hl := kEs_len he
  have two : ∀ {a b : Expr} {r : List Expr}, (a :: b :: r).filterMap (tgName sc line) = names → names.length = (a :: b :: r).length → ∃ x y t, tgName sc line a = some x ∧ tgName sc line b = some y ∧ names = x :: y :: t ∧ r.filterMap (tgName sc line) = t ∧ t.length = r.length := fun {a b r} e el => by
    have lr : (r.filterMap (tgName sc line)).length ≤ r.length := List.length_filterMap_le _ _
    cases ha : tgName sc line a with
    | none =>
      rw [List.filterMap_cons, ha] at e
      have := List.length_filterMap_le (tgName sc line) (b :: r)
      simp only [] at e
      rw [e, el] at this
      simp at this
      omega
    | some x =>
      cases hb : tgName sc line b with
      | none =>
        rw [List.filterMap_cons, ha, List.filterMap_cons, hb] at e
        simp only [] at e
        rw [← e] at el
        simp at el
        omega
      | some y =>
        rw [List.filterMap_cons, ha, List.filterMap_cons, hb] at e
        simp only [] at e
        refine ⟨x, y, _, rfl, rfl, e.symm, rfl, ?_⟩
        rw [← e] at el
        simpa using el
  have slot : ∀ {x : Str} {r : List Str} {is : List Nat}, slotsL C sc (x :: r) = some is → ∃ i js, is = i :: js ∧ X.N[i]? = some x ∧ slotsL C sc r = some js := fun {x r is} h => by
    simp only [slotsL] at h
    split at h
    · rename_i h1 h2
      cases h
      exact ⟨_, _, rfl, (G.slotW h1).1, h2⟩
    · cases h
  have nei : ∀ {x y : Str} {i j : Nat}, X.N[i]? = some x → X.N[j]? = some y → x ≠ y → i ≠ j := fun {x y i j} a b c e => by
    rw [e, b] at a
    exact c (Option.some.inj a).symm
  match ts, vs, h1, h2, h3, h4 with
  | [t1, t2], [v1, v2], _, _, h3, h4 =>
    obtain ⟨x, y, t, e1, e2, e3, e4, e5⟩ := two h3.symm h4
    cases e4
    obtain ⟨px, rfl, lx⟩ := tgName_inv e1
    obtain ⟨py, rfl, ly⟩ := tgName_inv e2
    subst e3
    obtain ⟨i, js, rfl, n1, s1⟩ := slot hs
    obtain ⟨j, ks, rfl, n2, s2⟩ := slot s1
    cases s2
    have hxy : x ≠ y := by
      rw [List.nodup_cons] at hn
      exact fun e => hn.1 (by rw [e]; exact List.mem_cons_self ..)
    match es', hl with
    | [a', b'], _ => exact ps_par2' G.calm G.nd n1 n2 (nei n1 n2 hxy) (by rw [G.scp]; exact lx) (by rw [G.scp]; exact ly) hA hst
  | [t1, t2, t3], [v1, v2, v3], _, _, h3, h4 =>
    obtain ⟨x, y, t, e1, e2, e3, e4, e5⟩ := two h3.symm h4
    obtain ⟨px, rfl, lx⟩ := tgName_inv e1
    obtain ⟨py, rfl, ly⟩ := tgName_inv e2
    cases hz : tgName sc line t3 with
    | none =>
      rw [List.filterMap_cons, hz] at e4
      simp only [List.filterMap_nil] at e4
      rw [← e4] at e5
      cases e5
    | some z =>
      rw [List.filterMap_cons, hz] at e4
      simp only [List.filterMap_nil] at e4
      subst e4
      obtain ⟨pz, rfl, lz⟩ := tgName_inv hz
      subst e3
      obtain ⟨i, js, rfl, n1, s1⟩ := slot hs
      obtain ⟨j, ks, rfl, n2, s2⟩ := slot s1
      obtain ⟨l, ls, rfl, n3, s3⟩ := slot s2
      cases s3
      rw [List.nodup_cons, List.nodup_cons] at hn
      have hxy : x ≠ y := fun e => hn.1 (by rw [e]; exact List.mem_cons_self ..)
      have hxz : x ≠ z := fun e => hn.1 (by rw [e]; simp)
      have hyz : y ≠ z := fun e => hn.2.1 (by rw [e]; simp)
      match es', hl with
      | [a', b', c'], _ => exact ps_par3' G.calm G.nd n1 n2 n3 (nei n1 n2 hxy) (nei n1 n3 hxz) (nei n2 n3 hyz) (by rw [G.scp]; exact lx) (by rw [G.scp]; exact ly) (by rw [G.scp]; exact lz) hA hst
  | [], _, h1, _, _, _ => rcases h1 with h1 | h1 <;> cases h1
  | [_], _, h1, _, _, _ => rcases h1 with h1 | h1 <;> cases h1
  | _ :: _ :: _ :: _ :: _, _, h1, _, _, _ => rcases h1 with h1 | h1 <;> cases h1
  | [_, _], [], _, h2, _, _ => cases h2
  | [_, _], [_], _, h2, _, _ => cases h2
  | [_, _], _ :: _ :: _ :: _, _, h2, _, _ => cases h2
  | [_, _, _], [], _, h2, _, _ => cases h2
  | [_, _, _], [_], _, h2, _, _ => cases h2
  | [_, _, _], [_, _], _, h2, _, _ => cases h2
  | [_, _, _], _ :: _ :: _ :: _ :: _, _, h2, _, _ => cases h2
theorem cTg_tuple {n : Nat} {ts : List Expr} {k : Nat} {p : Pos} {t : Rf.T} (h : cTg C sc n (.Tuple ts k p) = some t) : ∃ us, t = .tp us := by
  cases n with
  | zero => cases h
  | succ n =>
    simp only [cTg] at h
    cases h1 : ts.mapM (cTg C sc n) with
    | none => rw [h1] at h; cases h
    | some us => rw [h1] at h; cases h; exact ⟨us, rfl⟩
theorem assign_sub {o i : Expr} (h : plainE i = true) (p : Pos) (env : PySem.Env) (v : Value) : assign (.Subscript o i p) env v = (do
      let ov ← holding [v] (eval o env)
      let iv ← holding [v, ov] (eval i env)
      standAt p
      holding [v, ov, iv] (setItem ov iv v)
      release [v, ov, iv] []) := by
  cases i <;> first | rfl | cases h
theorem snd_asg (G : Gd X T C sc cl d) {t e : Expr} {s' : S} (h : kS C (n + 1) sc (.Assign [t] e pos) = some s') : PS X (.Assign [t] e pos) (tSx T (ex cl s')) := by
  simp only [kS] at h
  split at h
  · rename_i x p
    split at h
    · rename_i hsw
      split at h
      · rename_i h1 h2
        cases h
        obtain ⟨a, b, c⟩ := G.slotW h1
        exact ps_nm' G.nd a b c (by rw [G.swap, hsw]) ((snd 100).E G h2)
      · cases h
    · rename_i hsw
      split at h
      · rename_i h1 h2
        cases h
        obtain ⟨a, b, c⟩ := G.slotW h1
        have hs := G.swap e x p pos.line
        rw [hsw] at hs
        have hloc : X.env.scope.names.lookup x = some .local := by
          rw [G.scp]
          unfold swapB at hsw
          split at hsw
          · simp only [Bool.and_eq_true, decide_eq_true_eq] at hsw
            exact hsw.1.1
          · simp only [Bool.and_eq_true, decide_eq_true_eq] at hsw
            exact hsw.1.1
          · simp only [Bool.and_eq_true, decide_eq_true_eq] at hsw
            exact hsw.1.1
          · cases hsw
        unfold swapB at hsw
        split at hsw
        · obtain ⟨t, it, ifs, tg, i, elt', fs, md, rfl, rfl, g1, g2, g3, g4, g5, g6, g7⟩ := snd_lc (snd 99) G h2
          exact ps_lc G.calm G.nd a hloc hs g1 g2 g3 g4 g5 g6 g7
        · cases h2
        · obtain ⟨t, it, ifs, tg, i, k', v', fs, md, rfl, rfl, g1, g2, g3, g4, g5, g6, g7, g8⟩ := snd_dc (snd 99) G h2
          exact ps_dc (by have := G.hu; omega) G.calm G.nd a hloc hs g1 g2 g3 g4 g5 g6 g7 g8
        · cases hsw
      · cases h
  · rename_i ts k p
    split at h
    · split at h
      · cases h
      · rename_i hsw
        split at h
        · rename_i h1 h2
          cases h
          obtain ⟨us, rfl⟩ := cTg_tuple h1
          exact ps_tp' (G.tg 8 h1).2 (swap_tuple _ _ _ _ _ _) (G.stores hsw) rfl ((snd 100).E G h2)
        · cases h
      · rename_i hsw
        split at h
        · rename_i h1 h2 h3
          cases h
          exact G.par hsw h1 h2 (of_decide_eq_true h3)
        · cases h
    · rename_i hne
      split at h
      · rename_i h1 h2
        cases h
        obtain ⟨us, rfl⟩ := cTg_tuple h1
        exact ps_tp' (G.tg 8 h1).2 (swap_tuple _ _ _ _ _ _) (stores_plain _ _ _ _ _ hne) rfl ((snd 100).E G h2)
      · cases h
  · split at h
    · rename_i h1 h2 h3
      cases h
      obtain ⟨a, b, c⟩ := G.slotR h1
      have pi := plain_of h2
      exact ps_setI' G.hu (swap_sub _ _ _ _ _ _) (assign_sub pi _ _) a b c ((snd 100).E G h2) ((snd 100).E G h3) (swap_sub _ _ _ _ _ _) (stores_sub _ _ _ _ _)
    · cases h
  · cases h
/-- statements -/
structure SndS (n : Nat) : Prop where
  S : ∀ {X : Cx} {T : List Addr} {C : Cc} {sc : Scope} {cl : Calls} {d : Nat} {s : Stmt} {s' : Rf.S}, Gd X T C sc cl d → PassesOwn (model X.prog X.w) X.A X.env X.xe → kS C n sc s = some s' → PS X s (tSx T (ex cl s'))
  Ss : ∀ {X : Cx} {T : List Addr} {C : Cc} {sc : Scope} {cl : Calls} {d : Nat} {ss : List Stmt} {ss' : List Rf.S}, Gd X T C sc cl d → PassesOwn (model X.prog X.w) X.A X.env X.xe → kSs C n sc ss = some ss' → PSs X ss (tSx T (exs cl ss'))
theorem snd_S (S : SndS n) (G : Gd X T C sc cl d) (hp : PassesOwn (model X.prog X.w) X.A X.env X.xe) {s : Stmt} {s' : Rf.S} (h : kS C (n + 1) sc s = some s') : PS X s (tSx T (ex cl s')) := by
  cases s with
  | Assign ts e p =>
    match ts with
    | [t] => exact snd_asg G h
    | [] => simp only [kS] at h; cases h
    | _ :: _ :: _ => simp only [kS] at h; cases h
  | AugAssign t op e p =>
    simp only [kS] at h
    split at h
    · cases h
    · rename_i ho
      split at h
      · split at h
        · rename_i h1 h2
          cases h
          obtain ⟨a, b, c⟩ := G.slotW h1
          exact ps_aug' ho G.nd a b c ((snd 100).E G h2)
        · cases h
      · split at h
        · rename_i h1 h2 h3
          cases h
          obtain ⟨a, b, c⟩ := G.slotR h1
          exact ps_augI' G.hu ho (plain_of h2) a b c ((snd 100).E G h2) ((snd 100).E G h3)
        · cases h
      · cases h
  | Expr e p =>
    simp only [kS] at h
    split at h
    · rename_i h1 h2
      cases h
      exact ps_ex' (by cases e <;> first | rfl | cases h1) ((snd 100).E G h2)
    · cases h
  | Return o p =>
    simp only [kS] at h
    split at h
    · split at h
      · rename_i h1
        cases h
        exact ps_ret' ((snd 100).E G h1)
      · cases h
    · cases h
      exact ps_retN'
  | If c a b p =>
    simp only [kS] at h
    split at h
    · rename_i h1 h2 h3
      cases h
      exact ps_if' ((snd 100).T G h1) (S.Ss G hp h2) (S.Ss G hp h3)
    · cases h
  | For t it b o p =>
    match o with
    | [] =>
      simp only [kS] at h
      split at h
      · rename_i h1 h2 h3 h4
        cases h
        exact ps_for' hp G.calm (by rw [← plainE_eq]; exact h4) ((snd 100).I G h2) (G.tg 8 h1).2 (S.Ss G hp h3)
      · cases h
    | _ :: _ => simp only [kS] at h; cases h
  | While c b o p =>
    match o with
    | [] =>
      simp only [kS] at h
      split at h
      · rename_i h1 h2
        cases h
        exact ps_while' hp ((snd 100).T G h1) (S.Ss G hp h2)
      · cases h
    | _ :: _ => simp only [kS] at h; cases h
  | Break p => simp only [kS] at h; cases h; exact ps_brk'
  | Continue p => simp only [kS] at h; cases h; exact ps_cont'
  | Pass p => simp only [kS] at h; cases h; exact ps_pass'
  | _ => simp only [kS] at h; cases h
theorem snd_Ss (S : SndS n) (G : Gd X T C sc cl d) (hp : PassesOwn (model X.prog X.w) X.A X.env X.xe) {ss : List Stmt} {ss' : List Rf.S} (h : kSs C (n + 1) sc ss = some ss') : PSs X ss (tSx T (exs cl ss')) := by
  simp only [kSs] at h
  split at h
  · cases h; exact pss_0
  · split at h
    · rename_i h1 h2
      cases h
      exact pss_1 (S.S G hp h1) (S.Ss G hp h2)
    · cases h
end
theorem sndS : ∀ n : Nat, SndS n
  | 0 => ⟨fun _ _ h => (by cases h), fun _ _ h => (by cases h)⟩
  | n + 1 => ⟨fun G hp h => snd_S (sndS n) G hp h, fun G hp h => snd_Ss (sndS n) G hp h⟩
end Rf
/-! Rg5: a def keeps the promise of its compiled form. -/
namespace Rf
open PySem PySem.Spec PyProof.Rows L2 PySem.W
theorem zip_lookup {ps : List Str} {us : List Value} (hn : ps.Nodup) (hl : us.length = ps.length) : ∀ {n : Str}, n ∈ ps → ((ps.zip us).lookup n).isSome = true := fun {n} h => by
  induction ps generalizing us with
  | nil => cases h
  | cons p ps ih =>
    cases us with
    | nil => cases hl
    | cons u us =>
      rw [List.zip_cons_cons, List.lookup_cons]
      cases e : (n == p) with
      | true => rfl
      | false =>
        rcases List.mem_cons.mp h with h | h
        · rw [h] at e; simp at e
        · exact ih (List.nodup_cons.mp hn).2 (by simpa using hl) h
theorem zip_all {ps : List Str} {us : List Value} (hn : ps.Nodup) (hl : us.length = ps.length) : ps.filterMap (fun n => ((ps.zip us).lookup n).map (n, ·)) = ps.zip us := by
  induction ps generalizing us with
  | nil => rfl
  | cons p ps ih =>
    cases us with
    | nil => cases hl
    | cons u us =>
      rw [List.nodup_cons] at hn
      have e : ∀ n ∈ ps, (((p :: ps).zip (u :: us)).lookup n).map (n, ·) = ((ps.zip us).lookup n).map (n, ·) := fun n hx => by
        rw [List.zip_cons_cons, List.lookup_cons]
        have : (n == p) = false := by
          cases h : (n == p) with
          | false => rfl
          | true => rw [beq_iff_eq] at h; rw [h] at hx; exact absurd hx hn.1
        rw [this]
      have : ps.filterMap (fun n => (((p :: ps).zip (u :: us)).lookup n).map (n, ·)) = ps.filterMap (fun n => ((ps.zip us).lookup n).map (n, ·)) := fm_congr ps e
      rw [List.filterMap_cons, this, ih hn.2 (by simpa using hl), List.zip_cons_cons, List.lookup_cons]
      simp
/-- plain parameters -/
def plainA (a : Arguments) : Bool := a.posonlyargs.isEmpty && a.vararg.isNone && a.kwonlyargs.isEmpty && a.kwarg.isNone && a.defaults.isEmpty
theorem bind_plain {fd : FuncData} {us : List Value} (hp : plainA fd.params = true) (hd : fd.defaults = .none) (hn : (fd.params.args.map (·.arg)).Nodup) (hl : us.length = fd.params.args.length) : bindArgs fd ⟨us, []⟩ = pure ((fd.params.args.map (·.arg)).zip us) := by
  unfold plainA at hp
  simp only [Bool.and_eq_true, List.isEmpty_iff, Option.isNone_iff_eq_none] at hp
  obtain ⟨⟨⟨⟨p1, p2⟩, p3⟩, p4⟩, p5⟩ := hp
  have hl' : us.length = (fd.params.args.map (·.arg)).length := by rw [List.length_map]; exact hl
  unfold bindArgs
  simp only [p1, p2, p3, p4, hd, List.map_nil, List.nil_append, List.append_nil]
  have e1 : (seqItems? Value.none : Sem (Option (Array Value))) = pure none := rfl
  rw [e1]
  simp only [List.forIn_nil, pure_bind, Option.getD_none, List.length_nil, Nat.zero_sub, List.drop_nil, Nat.sub_zero, List.zip_nil_right, List.take_length]
  have e2 : ¬ (us.length > (fd.params.args.map (·.arg)).length ∧ (none : Option Arg).isNone = true) := by omega
  have e3 : ((fd.params.args.map (·.arg)).filter fun n => (((fd.params.args.map (·.arg)).zip us).lookup n).isNone) = [] := by
    rw [List.filter_eq_nil_iff]
    intro n h
    have := zip_lookup hn hl' h
    simp [Option.isSome_iff_ne_none] at this ⊢
    simpa [Option.isNone_iff_eq_none] using this
  have c1 : (decide (us.length > (fd.params.args.map (·.arg)).length) && (none : Option Arg).isNone) = false := by
    rw [show decide (us.length > (fd.params.args.map (·.arg)).length) = false from decide_eq_false (by omega)]
    rfl
  rw [if_neg (by rw [c1]; decide), e3]
  rw [if_neg (by decide), if_neg (by decide), zip_all hn hl']
/-- a def at its place, its code object and table known -/
structure DefT (P : Program) (w : World) (K : PySem.W.Frag) (mg : Str → Option Value) (base : Heap) (T : List Addr) (x : Str) (a : Arguments) (body : List Stmt) (scope : Scope) : Prop where
  ex : ∃ (f : Addr) (fd : FuncData) (oc : Value) (od : Option Addr) (kV doc pm : Value) (an : Option Addr) (c Pt : Addr) (ct : Value) (osl : Array (Option Value)),
    fd = PySem.W.fnOf x x a body scope .none kV doc pm an (.ref c) ct ∧ K.lookup f = some ⟨oc, od, .func fd, osl⟩ ∧ PySem.W.codeIn K (.ref c) x = true ∧ GxR.TabB base mg c Pt ∧ Pt ∈ T ∧ mg x = some (.ref f) ∧ PySem.W.keepIn K (.ref f) = true
/-- CallOk by its parts -/
def CallO (P : Program) (w : World) (K : PySem.W.Frag) (mg : Str → Option Value) (base : Heap) (k : Nat) (T : List Addr) (x : Str) (run : Run) : Prop :=
  ∃ f fd ps, mg x = some (.ref f) ∧ keepIn K (.ref f) = true ∧ Binds K fd ps [] ∧ FnOk P w K mg base CX0 k f fd ps (spG T run)
theorem fnB_ok {N ps : List Str} {sc : Scope} (h : fnB N ps sc = true) : FnScope N ps sc := by
  unfold fnB at h
  simp only [Bool.and_eq_true, Bool.not_eq_true', decide_eq_true_eq, List.all_eq_true, Bool.or_eq_true] at h
  obtain ⟨⟨⟨⟨⟨⟨h1, h2⟩, h3⟩, h4⟩, h5⟩, h6⟩, h7⟩ := h
  exact ⟨h1, h2, h3, h4, h5, h6, h7⟩
theorem uns_rep (n : Nat) : uns n = List.replicate n .un := by
  induction n with
  | zero => rfl
  | succ n ih => rw [uns, ih, List.replicate_succ]
theorem re_start {F : Hp} {ρ : List Addr} {N : List Str} : ∀ {ws : List W} {vs : List V} (m : Nat), RWs F ρ ws vs → RE F ρ (ws ++ uns m) (vs.map some ++ List.replicate m none)
  | [], vs, m, h => by
    cases h
    rw [uns_rep]
    show RE F ρ (List.replicate m .un) (List.replicate m none)
    induction m with
    | zero => trivial
    | succ m ih => exact ⟨.inl rfl, ih⟩
  | w :: ws, vs, m, h => by
    obtain ⟨v, t, rfl, h1, h2⟩ := h
    exact ⟨.inr ⟨v, rfl, h1⟩, re_start (N := N) m h2⟩
/-- the promise of a compiled def -/
theorem fn_sound {P : Program} {w : World} {K : PySem.W.Frag} {mg : Str → Option Value} {base : Heap} {T : List Addr} {x : Str} {a : Arguments} {body : List Stmt} {scope : Scope} {C : Cc} {ps : List Str} {fns : List Fn} {fn : Fn} {f d k : Nat}
    (D : DefT P w K mg base T x a body scope) (hC : C.lv = 1) (hps : ps = a.args.map (·.arg)) (hpl : plainA a = true) (hS : fnB C.N ps scope = true) (hc : kSs C 100 scope body = some fn.body) (hnp : fn.npar = ps.length) (hns : fn.nslot = C.N.length) (hf : nth fns f = some fn)
    (blt : ∀ x ∈ blts, posOf x C.fns 0 = none → mg x = none) (gcd : C.imp.contains "gcd" = true → mg "gcd" = some (.builtin "math.gcd")) (cmb : C.imp.contains "combinations" = true → mg "combinations" = some (.type "itertools.combinations"))
    (call : ∀ x i, posOf x C.fns 0 = some i → ∃ run, CallO P w K mg base k T x run ∧ ∀ ds r, (calls fns d).call i ds = some r → ∃ st', run (ds.map .d) [] = some (r, st')) : CallO P w K mg base (k + 4) T x (runF fns d f) := by
  obtain ⟨fa, fd, oc, od, kV, doc, pm, an, c, Pt, ct, osl, rfl, lk, hcd, TB, hP, hm, hk⟩ := D.ex
  have S := fnB_ok hS
  have ndp : (a.args.map (·.arg)).Nodup := by
    rw [← hps, ← S.pre]
    exact S.nd.sublist (List.take_sublist _ _)
  refine ⟨fa, PySem.W.fnOf x x a body scope .none kV doc pm an (.ref c) ct, ps, hm, hk, .all fun us hl => ?_, ?_⟩
  · rw [hps]
    exact bind_plain (fd := PySem.W.fnOf x x a body scope .none kV doc pm an (.ref c) ct) hpl rfl ndp (by rw [hl, hps, List.length_map])
  · have len : ∀ vs H Q E, spG T (runF fns d f) vs H Q E → vs.length = ps.length := fun vs H Q E h => by
      obtain ⟨F, ρ, st, ws, x', st', r, hw, e, fin⟩ := h
      simp only [runF, hf] at e
      split at e
      · rename_i env he
        unfold Rf.start at he
        split at he
        · rename_i hb
          rw [hw.length, Nat.eq_of_beq_eq_true hb, hnp]
        · cases he
      · cases e
    refine fn_of lk hcd S len fun A outer s H vs Q E hr hsp => ⟨tSx T (exs (calls fns d) fn.body), PSs.nox ?_, ?_⟩
    · refine (sndS 100).Ss (d := k) (C := C) (sc := scope) ⟨rfl, S.kind, rfl, rfl, S.nd, ?_, rfl, fun _ _ _ => rfl, blt, gcd, cmb, call, fun _ => ⟨c, Pt, TB, rfl, hP⟩⟩ PassesOwn.never hc
      rw [hC]
      exact hr
    · have hl := len _ _ _ _ hsp
      obtain ⟨F, ρ, st, ws, x', st', r, hw, e, fin⟩ := hsp
      simp only [runF, hf] at e
      split at e
      · rename_i env he
        unfold Rf.start at he
        split at he
        · rename_i hb
          cases he
          have hE : RE F ρ (ws ++ uns (fn.nslot - fn.npar)) (L2.start C.N vs) := by
            unfold L2.start
            rw [hns, hnp, ← hl]
            exact re_start (N := C.N) _ hw
          unfold rets at e
          split at e
          · rename_i x2 env2 st2 h2
            cases e
            refine ⟨F, ρ, _, st, _, _, _, r, hE, h2, fun F' ρ' H' s' r' => ?_⟩
            exact fun v hv => fin F' ρ' H' v s' r' hv
          · rename_i env2 st2 h2
            cases e
            refine ⟨F, ρ, _, st, _, _, _, r, hE, h2, fun F' ρ' H' s' r' => ?_⟩
            exact fun σ' _ => fin F' ρ' H' .non s' r' rfl
          · cases e
        · cases he
      · cases e
end Rf
/-! Rg6: a module's defs, by the depth of calls. -/
namespace Rf
open PySem PySem.Spec PyProof.Rows L2 PySem.W
def noRun : Run := fun _ _ => none
/-- all values are data -/
def dsOf : List W → Option (List D)
  | [] => some []
  | .d x :: r => (match dsOf r with
    | some ds => some (x :: ds)
    | none => none)
  | _ :: _ => none
theorem dsOf_map : ∀ ds : List D, dsOf (ds.map .d) = some ds
  | [] => rfl
  | x :: r => by simp only [List.map_cons, dsOf, dsOf_map r]
theorem dsOf_inv : ∀ {ws : List W} {ds : List D}, dsOf ws = some ds → ws = ds.map .d
  | [], ds, h => by cases h; rfl
  | .d x :: r, ds, h => by
    simp only [dsOf] at h
    split at h
    · rename_i h1
      cases h
      rw [dsOf_inv h1]
      rfl
    · cases h
  | .ref _ :: _, _, h => by cases h
  | .un :: _, _, h => by cases h
/-- the run of a def that was proved by hand -/
def runN (g : List D → Option D) : Run := fun ws st => match st with
  | [] => (match dsOf ws with
    | some ds => (match g ds with
      | some r => some (r, [])
      | none => none)
    | none => none)
  | _ :: _ => none
section
variable {P : Program} {w : World} {K : PySem.W.Frag} {mg : Str → Option Value} {base : Heap} {T : List Addr} {names imp : List Str} {fns : List Fn} {x : Str} {i k : Nat} {run : Run}
theorem no_fn {f : Addr} {fd : FuncData} {ps : List Str} : FnOk P w K mg base CX0 k f fd ps (spG T noRun) :=
  ⟨fun vs H Q E ⟨F, ρ, st, ws, x, st', r, hw, e, fin⟩ => (nomatch e), fun A outer s H args us vs Q E hr e0 hb hv ⟨F, ρ, st, ws, x, st', r, hw, e, fin⟩ => nomatch e⟩
theorem CallO.zero (h : CallO P w K mg base k T x run) : CallO P w K mg base 0 T x noRun := by
  obtain ⟨f, fd, ps, h1, h2, h3, h4⟩ := h
  exact ⟨f, fd, ps, h1, h2, h3, no_fn⟩
theorem CallO.mono {j : Nat} (h : CallO P w K mg base j T x run) (hj : j ≤ k) : CallO P w K mg base k T x run := by
  obtain ⟨f, fd, ps, h1, h2, h3, h4⟩ := h
  exact ⟨f, fd, ps, h1, h2, h3, h4.mono hj⟩
/-- the i-th def was compiled -/
def Cpl (P : Program) (w : World) (K : PySem.W.Frag) (mg : Str → Option Value) (base : Heap) (T : List Addr) (names imp : List Str) (fns : List Fn) (x : Str) (i : Nat) : Prop :=
  ∃ (fz refs : List Str) (a : Arguments) (body : List Stmt) (scope : Scope) (s : Stmt) (fn : Fn), DefT P w K mg base T x a body scope ∧ plainA a = true ∧ defN s = some x ∧ defPs s = a.args.map (·.arg) ∧ defB s = body ∧ defSc s = scope ∧ kFn fz names refs imp s = some fn ∧ nth fns i = some fn
/-- .. was proved by hand -/
def Hnd (P : Program) (w : World) (K : PySem.W.Frag) (mg : Str → Option Value) (base : Heap) (T : List Addr) (fns : List Fn) (x : Str) (i : Nat) : Prop :=
  ∃ (fn : Fn) (g : List D → Option D), nth fns i = some fn ∧ fn.nat = some g ∧ CallO P w K mg base 4 T x (runN g)
theorem kFn_inv {fz refs : List Str} {s : Stmt} {fn : Fn} (h : kFn fz names refs imp s = some fn) : ∃ b N mu, kSs ⟨b, 1, fun _ => true, N, names, refs, mu, imp⟩ 100 (defSc s) (defB s) = some fn.body ∧ fnB N (defPs s) (defSc s) = true ∧ fn.npar = (defPs s).length ∧ fn.nslot = N.length ∧ fn.nat = none := by
  simp only [kFn] at h
  split at h
  · rename_i h1 h2
    cases h
    exact ⟨_, _, _, h1, h2, rfl, rfl, rfl⟩
  · cases h
theorem cpl_sound (blt : ∀ x ∈ blts, posOf x names 0 = none → mg x = none) (gcd : imp.contains "gcd" = true → mg "gcd" = some (.builtin "math.gcd")) (cmb : imp.contains "combinations" = true → mg "combinations" = some (.type "itertools.combinations"))
    {d : Nat} (ih : ∀ (x : Str) (i : Nat), posOf x names 0 = some i → ∃ run, CallO P w K mg base (4 * d) T x run ∧ ∀ ds r, (calls fns d).call i ds = some r → ∃ st', run (ds.map .d) [] = some (r, st')) (c : Cpl P w K mg base T names imp fns x i) : CallO P w K mg base (4 * d + 4) T x (runF fns d i) := by
  obtain ⟨fz, refs, a, body, scope, s, fn, D, hpl, e0, e1, e2, e3, hk, hf⟩ := c
  obtain ⟨b, N, mu, h1, h2, h3, h4, h5⟩ := kFn_inv hk
  rw [e2, e3] at h1
  rw [e1, e3] at h2
  rw [e1] at h3
  exact fn_sound (d := d) (k := 4 * d) D (C := ⟨b, 1, fun _ => true, N, names, refs, mu, imp⟩) rfl rfl hpl h2 h1 h3 h4 hf blt gcd cmb ih
theorem mod_sound (blt : ∀ x ∈ blts, posOf x names 0 = none → mg x = none) (gcd : imp.contains "gcd" = true → mg "gcd" = some (.builtin "math.gcd")) (cmb : imp.contains "combinations" = true → mg "combinations" = some (.type "itertools.combinations"))
    (H : ∀ x i, posOf x names 0 = some i → Cpl P w K mg base T names imp fns x i ∨ Hnd P w K mg base T fns x i) :
    ∀ (d : Nat) (x : Str) (i : Nat), posOf x names 0 = some i → ∃ run, CallO P w K mg base (4 * d) T x run ∧ ∀ ds r, (calls fns d).call i ds = some r → ∃ st', run (ds.map .d) [] = some (r, st') := by
  intro d
  induction d with
  | zero =>
    intro x i hx
    refine ⟨noRun, ?_, fun ds r h => nomatch h⟩
    rcases H x i hx with ⟨fz, refs, a, body, scope, s, fn, D, hpl, e0, e1, e2, e3, hk, hf⟩ | ⟨fn, g, hf, hn, ok⟩
    · obtain ⟨b, N, mu, h1, h2, h3, h4, h5⟩ := kFn_inv hk
      rw [e2, e3] at h1
      rw [e1, e3] at h2
      obtain ⟨fa, fd, oc, od, kV, doc, pm, an, c, Pt, ct, osl, rfl, lk, hcd, TB, hP, hm, hkp⟩ := D.ex
      have S := fnB_ok h2
      have ndp : (a.args.map (·.arg)).Nodup := by
        rw [← S.pre]
        exact S.nd.sublist (List.take_sublist _ _)
      exact CallO.zero (k := 0) (run := noRun) ⟨fa, PySem.W.fnOf x x a body scope .none kV doc pm an (.ref c) ct, a.args.map (·.arg), hm, hkp, .all fun us hl => bind_plain (fd := PySem.W.fnOf x x a body scope .none kV doc pm an (.ref c) ct) hpl rfl ndp (by rw [hl, List.length_map]), no_fn⟩
    · exact ok.zero
  | succ d ih =>
    intro x i hx
    rcases H x i hx with ⟨fz, refs, a, body, scope, s, fn, D, hpl, e0, e1, e2, e3, hk, hf⟩ | ⟨fn, g, hf, hn, ok⟩
    · obtain ⟨b, N, mu, h1, h2, h3, h4, h5⟩ := kFn_inv hk
      rw [e2, e3] at h1
      rw [e1, e3] at h2
      rw [e1] at h3
      refine ⟨runF fns d i, ?_, fun ds r h => ?_⟩
      · have := fn_sound (d := d) (k := 4 * d) D (C := ⟨b, 1, fun _ => true, N, names, refs, mu, imp⟩) rfl rfl hpl h2 h1 h3 h4 hf blt gcd cmb ih
        exact this
      · simp only [calls, hf, h5] at h
        split at h
        · rename_i env he
          split at h
          · rename_i y st' hr
            cases h
            exact ⟨st', by simp only [runF, hf, he, hr]⟩
          · cases h
        · cases h
    · refine ⟨runN g, ok.mono (by omega), fun ds r h => ?_⟩
      simp only [calls, hf, hn] at h
      exact ⟨[], by simp only [runN, dsOf_map, h]⟩
end
end Rf
/-! Rg8: from the top's look to the defs; the end of a law. -/
namespace Rf
open PySem PySem.Spec PyProof.Rows L2 PySem.W
section
variable {vs : List (Str × Option Value)} {fn : List He.DefD} {h base : Heap} {K0 K : Frag} {l : List Pl} {P : Program} {w : World} {mg : Str → Option Value}
theorem SaysT.mg_val (S : SaysT vs fn h K0 K l) (G : h.Ns mainGlobals mg) {x : Str} {v : Value} (hx : (x, some v) ∈ vs) : mg x = some v := mg_of S.k0 G (S.vals _ hx)
theorem SaysT.mg_no (S : SaysT vs fn h K0 K l) (G : h.Ns mainGlobals mg) {x : Str} (hx : (x, none) ∈ vs) : mg x = none := mg_none_of S.k0 G (S.vals _ hx)
theorem SaysT.defT (S : SaysT vs fn h K0 K l) (G : h.Ns mainGlobals mg) (TB : ∀ p ∈ l.map (·.2), LamX.TabB base mg p.1 p.2) {i : Nat} {d : He.DefD} (hd : fn[i]? = some d) (hq : d.qual = d.name) : DefT P w K mg base (l.map (·.2.2)) d.name d.params d.body d.scope := by
  obtain ⟨p, h1, h2, h3, ⟨oc, od, fd, osl, h4, h5, h6⟩, h7, h8, h9, h10⟩ := S.def_ i d hd
  have hm : p ∈ l := List.mem_of_getElem? h1
  have tb := TB p.2 (List.mem_map.mpr ⟨p, hm, rfl⟩)
  have e : fnV K p.1 = some (fd.name, fd.qualname, fd.params, fd.body, fd.scope, fd.globals, fd.closure, fd.builtins) := by
    unfold fnV
    rw [h4]
  rw [h3] at e
  obtain ⟨n1, n2, n3, n4, n5, n6, n7, n8, n9, n10, n11, n12, n13, n14, n15⟩ := fd
  have e2 : (some (d.name, d.qual, d.params, FuncBody.stmts d.body, d.scope, mainGlobals, [], builtinsNs) : He.FnW) = some (n1, n2, n3, n4, n5, n6, n7, n15) := e
  simp only [Option.some.injEq, Prod.mk.injEq] at e2
  obtain ⟨q1, q2, q3, q4, q5, q6, q7, q8⟩ := e2
  subst q1 q3 q4 q5 q6 q7 q8
  have q2 : n2 = d.name := q2.symm.trans hq
  subst q2
  have h5 : n13 = .ref p.2.1 := h5
  have h6 : n8 = .none := h6
  subst h5 h6
  refine ⟨p.1, _, oc, od, n9, n10, n11, n12, p.2.1, p.2.2, n14, osl, rfl, h4, h7, ⟨tb.code, tb.bm, tb.gP⟩, List.mem_map.mpr ⟨p, hm, rfl⟩, mg_of S.k0 G h2, ?_⟩
  simp only [keepIn, h4]
end
/-- the end of a law: the tables stand empty -/
theorem walk_T {l : PySem.W.OpenLaw} {n k : Nat} {q : Program} {loose : List Str} {XP : (Str → Option Value) → Heap → Prop} {d : DefRec} {x : Str} {vs : List (Str × Option Value)} {fn : List He.DefD}
    (hn : l.most = some n) (hn2 : n ≤ sizeLine) (hdf : d.params.defaults = []) (hr : Room k callerA)
    (F : ∀ (w : World) (mg : Str → Option Value) (fa : Addr) (h : Heap) (K0 K : Frag) (L : List Pl), SaysT vs fn h K0 K L → h.Ns mainGlobals mg → mg d.name = some (.ref fa) →
      ∃ (fd : FuncData) (sp : Sp), (∀ (s : Shared) (u : Value), BindsTo s fd ⟨[u], []⟩ [(x, u)]) ∧
        (∀ (H : Hp) (a : Addr) (ns : List Int), ns.length ≤ n → (∀ p ∈ L, H p.2.2 = some (.tbl #[])) → SqL K H a (ns.map V.int) → sp [.ref a] H (fun v _ => v = .bl true) fun _ _ _ => False) ∧
        ∀ base : Heap, K.In base → base.Ns mainGlobals mg → (∀ p ∈ L.map (·.2), LamX.TabB base mg p.1 p.2) → FnOk l.prog w K mg base CX0 k fa fd [x] sp) :
    PySem.W.WalkO q loose XP (hookT vs fn).says l.row.toRowW d [] (fun f vs => PySem.call f vs) := by
  refine Att.attach_callB hn hdf fun w s₀ s₁ mg mb fa o pm cd doc a us ns G Y ho hd hcd hmg hobj hints hlen hbits hg => ?_
  obtain ⟨K0, K, L, S⟩ := Y
  obtain ⟨fd, sp, hb, hsp, hF⟩ := F w mg fa _ K0 K L S G.T.g hmg
  have look : ∀ p ∈ L.map (·.2), ∃ d p', p' ∈ L ∧ p = p'.2 ∧ codeHdIn K p.1 p.2 = true ∧ K.lookup p.2 = none ∧ s₁.heap.get? p.2 = some (tabObj #[]) := fun p hp => by
    obtain ⟨p', hp', e⟩ := List.mem_map.mp hp
    obtain ⟨i, hi⟩ := List.getElem?_of_mem hp'
    have hl : i < fn.length := by
      rw [← S.len]
      exact (List.getElem?_eq_some_iff.mp hi).1
    obtain ⟨p2, h1, h2, h3, h4, h5, h6, h7, h8⟩ := S.def_ i fn[i] (List.getElem?_eq_getElem hl)
    rw [hi] at h1
    cases h1
    subst e
    exact ⟨fn[i], p', hp', rfl, h6, h7, h8⟩
  refine LamX.law_callTs (cs := L.map (·.2)) S.k G.T.g G.T.b G.T.builtins G.T.nolimit hg (fun p hp => ?_) (fun p hp => ?_) (fun p hp => ?_) G.T.bmain hobj hints (Nat.le_trans hlen hn2) hr hF hb (fun H hH hS => hsp H a ns hlen (fun p hp => hH p.2 (List.mem_map.mpr ⟨p, hp, rfl⟩)) hS) fun H e s' h => h
  · obtain ⟨_, _, _, _, _, _, h⟩ := look p hp
    exact h
  · obtain ⟨_, _, _, _, _, h, _⟩ := look p hp
    exact h
  · obtain ⟨_, _, _, _, h, _, _⟩ := look p hp
    exact codeHd_of_K S.k h
end Rf
/-! Rg9: a law's beginning: its cell of the script, its draws, its first number. -/
namespace Rf
open PySem PySem.Spec PyProof.Rows L2 PySem.W
def spCell (K : PySem.W.Frag) : Sp := fun vs H Q _ => ∃ (a : Addr) (ns : List Int), vs = [.ref a, .int 0] ∧ SqL K H a (ns.map V.int) ∧ Q (.int (ns.headD 3)) H
def cellN : List Str := ["script", "k"]
def cellBody (p1 p2 p3 p4 p5 p6 p7 p8 p9 p10 p11 p12 p13 p14 p15 p16 : Pos) (k1 k2 : Nat) : List Stmt :=
  [.If (.Compare (.Name "k" p1) [.Lt] [.Call (.Name "len" p2) [.Name "script" p3] [] p4] p5) [.Return (some (.Subscript (.Name "script" p6) (.Name "k" p7) p8)) p9] [] p10,
   .Return (some (.BinOp (.BinOp (.Constant (.int 5) k1 p11) .Mult (.Name "k" p12) p13) .Add (.Constant (.int 3) k2 p14) p15)) p16]
theorem Gl_of {X : Cx} {g : Str} (h : isGl X.env.scope g = true) : Gl X g := by
  unfold isGl at h
  show X.env.scope.names.lookup g = _
  split at h
  · assumption
  · cases h
section
variable {P : Program} {w : World} {K : PySem.W.Frag} {mg : Str → Option Value} {base : Heap} {T : List Addr}
theorem ok_cell {a : Arguments} {scope : Scope} {body : List Stmt} {p1 p2 p3 p4 p5 p6 p7 p8 p9 p10 p11 p12 p13 p14 p15 p16 : Pos} {k1 k2 : Nat} (D : DefT P w K mg base T "_law_cell" a body scope) (hb : body = cellBody p1 p2 p3 p4 p5 p6 p7 p8 p9 p10 p11 p12 p13 p14 p15 p16 k1 k2)
    (ha : a.args.map (·.arg) = cellN) (hpl : plainA a = true) (hS : fnB cellN cellN scope = true) (hl : isGl scope "len" = true) (ml : mg "len" = none) :
    ∃ f fd ps, mg "_law_cell" = some (.ref f) ∧ keepIn K (.ref f) = true ∧ Binds K fd ps [] ∧ FnOk P w K mg base CX0 1 f fd ps (spCell K) := by
  obtain ⟨fa, fd, oc, od, kV, doc, pm, an, c, Pt, ct, osl, rfl, lk, hcd, TB, hP, hm, hk⟩ := D.ex
  have S := fnB_ok hS
  refine ⟨fa, PySem.W.fnOf "_law_cell" "_law_cell" a body scope .none kV doc pm an (.ref c) ct, cellN, hm, hk, .all fun us hl => ?_, ?_⟩
  · have hl2 : us.length = a.args.length := by rw [hl, ← ha, List.length_map]
    have := bind_plain (fd := PySem.W.fnOf "_law_cell" "_law_cell" a body scope .none kV doc pm an (.ref c) ct) (us := us) hpl rfl (by show (a.args.map (·.arg)).Nodup; rw [ha]; exact S.nd) hl2
    rw [this]
    show pure ((a.args.map (·.arg)).zip us) = _
    rw [ha]
  · subst hb
    refine fn_of lk hcd S (fun vs H Q E h => by obtain ⟨a, ns, rfl, _⟩ := h; rfl) fun A outer s H vs Q E hr hsp => ?_
    obtain ⟨ad, ns, rfl, hSq, q⟩ := hsp
    have v0 : Vis scope "script" := (S.par "script" (by decide)).elim .inl fun h => .inr (.inl h)
    have v1 : Vis scope "k" := (S.par "k" (by decide)).elim .inl fun h => .inr (.inl h)
    refine ⟨_, PSs.nox (pss_cons (ps_if (pt_cmpR op_lt (pv (x := "k") 1 (hv := v1)) (pe_callB call_len_seq (Gl_of hl) ml PySem.boot_len (pa_cons (pv (x := "script") 0 (hv := v0)) pa_nil)) rfl)
      (pss_one (ps_ret (pe_ix ix_list (pv (x := "script") 0 (hv := v0)) (pv (x := "k") 1 (hv := v1)) (fun _ _ => rfl)))) pss_nil)
      (pss_one (ps_ret (pe_op op_add (pe_op op_mul pe_int (pv (x := "k") 1 (hv := v1))) pe_int)))), ?_⟩
    refine ⟨.int 0, rfl, .ref ad, rfl, ad, ns.map V.int, rfl, .inl hSq, 0, _, rfl, rfl, _, rfl, ite2 (fun e => ?_) (fun e => ?_)⟩
    · cases ns with
      | nil => cases e
      | cons x r => exact ⟨.ref ad, rfl, .int 0, rfl, ad, (x :: r).map V.int, 0, .int x, rfl, rfl, hSq, atI_nat (j := 0) rfl, q⟩
    · cases ns with
      | nil => exact ⟨.int 0, rfl, 5, 0, rfl, rfl, .inl ⟨by decide, by decide⟩, 5 * 0, 3, rfl, rfl, q⟩
      | cons x r => exact absurd (decide_eq_true (by rw [List.map_cons, List.length_cons]; omega)) e
end
end Rf
/-! Rh0: the law's draws, by the evaluator. -/
namespace Rf
open S E T in
def drawTurn : List Rf.S := [.ifs (.and_ (.tru (.var 3)) (.cmp .gt (.var 2) (.lit (.int 0))))
  [.ex (.push 5 (.bin .mod false (.prim .int false [.var 2]) (.lit (.int 5040)))), .asg (.nm 2) (.bin .fdiv false (.var 2) (.lit (.int 5040)))]
  [.asg (.nm 7) (.bin .mod false (.prim .int false [.bin .add false (.bin .add false (.bin .mul false (.var 4) (.lit (.int 48271))) (.bin .mul false (.bin .add false (.var 6) (.lit (.int 1))) (.lit (.int 69621)))) (.lit (.int 11))]) (.lit (.int 2147483647))),
   .asg (.nm 7) (.bin .mod false (.prim .int false [.bin .add false (.bin .mul false (.var 7) (.var 7)) (.bin .mul false (.lit (.int 40692)) (.bin .add false (.var 6) (.lit (.int 3))))]) (.lit (.int 2147483399))),
   .ex (.push 5 (.bin .mod false (.prim .int false [.bin .fdiv false (.var 7) (.lit (.int 64))]) (.lit (.int 5040))))]]
def drawBody : List Rf.S := [.asg (.nm 2) (.prim .abs false [.prim .int false [.var 0]]), .asg (.nm 3) (.cmp .ge (.var 2) (.bin .pow false (.lit (.int 10)) (.lit (.int 18)))), .asg (.nm 4) (.var 2), .asg (.nm 5) (.lst true []),
  .for_ (.nm 6) (.rng1 (.var 1)) drawTurn, .ret (.var 5)]
def drawE (N : Nat) (c : Int) (r n0 : Nat) (b : Bool) (x6 x7 : W) : Env := [.d (.int c), .d (.int N), .d (.int r), .d (.bl b), .d (.int n0), .ref 0, x6, x7]
theorem mul_r (i j : Int) (h : Nat.blt j.natAbs 18446744073709551616 = true) : binop .mul (.int i) (.int j) = some (.d (.int (i * j))) := by
  have : mulOk i j = true := by
    unfold mulOk
    rw [h]
    simp
  show (match mulOk i j with | true => some (PR.d (.int (i * j))) | false => none) = _
  rw [this]
theorem mul_l (i j : Int) (h : Nat.blt i.natAbs 18446744073709551616 = true) : binop .mul (.int i) (.int j) = some (.d (.int (i * j))) := by
  have : mulOk i j = true := by
    unfold mulOk
    rw [h]
    rfl
  show (match mulOk i j with | true => some (PR.d (.int (i * j))) | false => none) = _
  rw [this]
section
variable {C : Calls} {a b e : E} {env : Env} {st : St} {x y z : D} {op : BOp} {box : Bool} {p : Prim} {i : Nat} {r : List S}
theorem ev_bin (ha : ev C a env st = some (.d x, st)) (hb : ev C b env st = some (.d y, st)) (h : binop op x y = some (.d z)) : ev C (.bin op box a b) env st = some (.d z, st) := by
  simp only [ev, ha, hb, view2, view, h, mk]
theorem ev_p1 (ha : ev C a env st = some (.d x, st)) (h : prim p [x] = some (.d z)) : ev C (.prim p box [a]) env st = some (.d z, st) := by
  simp only [ev, evW, ha, views, view, h, mk]
theorem ev_v (h : getE env i = .d x) : ev C (.var i) env st = some (.d x, st) := by
  simp only [ev, h]
theorem ev_l : ev C (.lit x) env st = some (.d x, st) := by simp only [ev]
theorem ofT3_of (k : Bool) : ofT3 (T3.of k) st = some (.d (.bl k), st) := by cases k <;> rfl
theorem ev_cmp' {op : COp} {k : Bool} (ha : ev C a env st = some (.d x, st)) (hb : ev C b env st = some (.d y, st)) (h : cmpop op x y = T3.of k) : ev C (.cmp op a b) env st = some (.d (.bl k), st) := by
  simp only [ev, ha, hb, view2, view, h, ofT3_of]
theorem exs_asg (h : ev C e env st = some (.d x, st)) : exs C (.asg (.nm i) e :: r) env st = exs C r (setE env i (.d x)) st := by
  simp only [exs, ex, h]
theorem push_ev {ds : List D} (h : ev C e env [.lst ds] = some (.d x, [.lst ds])) (hg : getE env 5 = .ref 0) (hl : lenOk ds = true) : exs C (.ex (.push 5 e) :: r) env [.lst ds] = exs C r env [.lst (ds ++ [x])] := by
  simp only [exs, ex, ev, hg, getO, isLst, h, freeze, hl, setO]
end
theorem mod_nat (i k : Int) (hk : 0 < k) : ∃ m : Nat, i % k = m ∧ (m : Int) < k := by
  have h1 := Int.emod_nonneg i (show k ≠ 0 by omega)
  have h2 := Int.emod_lt_of_pos i hk
  exact ⟨(i % k).toNat, by omega, by omega⟩
theorem mod_int (i k : Int) (h : isPos k = true) : binop .mod (.int i) (.int k) = some (.d (.int (i % k))) := by
  show (match isPos k with | true => some (PR.d (.int (i % k))) | false => none) = _
  rw [h]
theorem div_int (i k : Int) (h : pos30 k = true) : binop .fdiv (.int i) (.int k) = some (.d (.int (i / k))) := by
  show (match pos30 k with | true => some (PR.d (.int (i / k))) | false => none) = _
  rw [h]
theorem add_int' (i j : Int) : binop .add (.int i) (.int j) = some (.d (.int (i + j))) := rfl
/-- one turn -/
theorem draw_turn (N : Nat) (C : Calls) (c : Int) (r n0 : Nat) (b : Bool) (k : Nat) (x7 : W) (ds : List D) (hl : lenOk ds = true) : ∃ (x r' : Nat) (x7' : W), exs C drawTurn (drawE N c r n0 b (.d (.int k)) x7) [.lst ds] = some (.nx, drawE N c r' n0 b (.d (.int k)) x7', [.lst (ds ++ [.int (x : Nat)])]) ∧ x < 5040 := by
  have alt : ∃ (x : Nat) (x7' : W), exs C [.asg (.nm 7) (.bin .mod false (.prim .int false [.bin .add false (.bin .add false (.bin .mul false (.var 4) (.lit (.int 48271))) (.bin .mul false (.bin .add false (.var 6) (.lit (.int 1))) (.lit (.int 69621)))) (.lit (.int 11))]) (.lit (.int 2147483647))),
      .asg (.nm 7) (.bin .mod false (.prim .int false [.bin .add false (.bin .mul false (.var 7) (.var 7)) (.bin .mul false (.lit (.int 40692)) (.bin .add false (.var 6) (.lit (.int 3))))]) (.lit (.int 2147483399))),
      .ex (.push 5 (.bin .mod false (.prim .int false [.bin .fdiv false (.var 7) (.lit (.int 64))]) (.lit (.int 5040))))] (drawE N c r n0 b (.d (.int k)) x7) [.lst ds] = some (.nx, drawE N c r n0 b (.d (.int k)) x7', [.lst (ds ++ [.int (x : Nat)])]) ∧ x < 5040 := by
    obtain ⟨m1, e1, l1⟩ := mod_nat (n0 * 48271 + (k + 1) * 69621 + 11) 2147483647 (by decide)
    obtain ⟨m2, e2, l2⟩ := mod_nat (m1 * m1 + 40692 * (k + 3)) 2147483399 (by decide)
    obtain ⟨m3, e3, l3⟩ := mod_nat ((m2 : Int) / 64) 5040 (by decide)
    refine ⟨m3, .d (.int m2), ?_, by omega⟩
    rw [exs_asg (x := .int m1) (ev_bin (ev_p1 (ev_bin (ev_bin (ev_bin (ev_v (x := .int n0) rfl) ev_l (mul_r n0 48271 (by decide))) (ev_bin (ev_bin (ev_v (x := .int k) rfl) ev_l (add_int' k 1)) ev_l (mul_r _ 69621 (by decide))) (add_int' _ _)) ev_l (add_int' _ 11)) rfl) ev_l (by rw [← e1]; exact mod_int _ 2147483647 (by decide)))]
    rw [exs_asg (x := .int m2) (ev_bin (ev_p1 (ev_bin (ev_bin (ev_v (x := .int m1) rfl) (ev_v (x := .int m1) rfl) (mul_l m1 m1 (Nat.ble_eq_true_of_le (by show m1 + 1 ≤ _; omega)))) (ev_bin ev_l (ev_bin (ev_v (x := .int k) rfl) ev_l (add_int' k 3)) (mul_l 40692 _ (by decide))) (add_int' _ _)) rfl) ev_l (by rw [← e2]; exact mod_int _ 2147483399 (by decide)))]
    rw [push_ev (x := .int m3) (ev_bin (ev_p1 (ev_bin (ev_v (x := .int m2) rfl) ev_l (div_int m2 64 (by decide))) rfl) ev_l (by rw [← e3]; exact mod_int _ 5040 (by decide))) rfl hl]
    rfl
  have main : exs C drawTurn (drawE N c r n0 b (.d (.int k)) x7) [.lst ds] = (match b && Nat.blt 0 r with
      | true => exs C [.ex (.push 5 (.bin .mod false (.prim .int false [.var 2]) (.lit (.int 5040)))), .asg (.nm 2) (.bin .fdiv false (.var 2) (.lit (.int 5040)))] (drawE N c r n0 b (.d (.int k)) x7) [.lst ds]
      | false => exs C [.asg (.nm 7) (.bin .mod false (.prim .int false [.bin .add false (.bin .add false (.bin .mul false (.var 4) (.lit (.int 48271))) (.bin .mul false (.bin .add false (.var 6) (.lit (.int 1))) (.lit (.int 69621)))) (.lit (.int 11))]) (.lit (.int 2147483647))),
      .asg (.nm 7) (.bin .mod false (.prim .int false [.bin .add false (.bin .mul false (.var 7) (.var 7)) (.bin .mul false (.lit (.int 40692)) (.bin .add false (.var 6) (.lit (.int 3))))]) (.lit (.int 2147483399))),
      .ex (.push 5 (.bin .mod false (.prim .int false [.bin .fdiv false (.var 7) (.lit (.int 64))]) (.lit (.int 5040))))] (drawE N c r n0 b (.d (.int k)) x7) [.lst ds]) := by
    have hs : ∀ s : S, exs C [s] (drawE N c r n0 b (.d (.int k)) x7) [.lst ds] = ex C s (drawE N c r n0 b (.d (.int k)) x7) [.lst ds] := fun s => by
      simp only [exs]
      split
      · rename_i h; rw [h]
      · rfl
    rw [drawTurn, hs]
    cases b with
    | false => rfl
    | true =>
      cases r with
      | zero => rfl
      | succ r => rfl
  rw [main]
  cases h : b && Nat.blt 0 r with
  | false =>
    obtain ⟨x, x7', h1, h2⟩ := alt
    exact ⟨x, r, x7', h1, h2⟩
  | true =>
    obtain ⟨m3, e3, l3⟩ := mod_nat (r : Int) 5040 (by decide)
    refine ⟨m3, r / 5040, x7, ?_, by omega⟩
    show exs C [_, _] _ _ = _
    rw [push_ev (x := .int m3) (ev_bin (ev_p1 (ev_v (x := .int r) rfl) rfl) ev_l (by rw [← e3]; exact mod_int _ 5040 (by decide))) rfl hl]
    rw [exs_asg (x := .int ((r / 5040 : Nat) : Int)) (ev_bin (ev_v (x := .int r) rfl) ev_l (by rw [Int.natCast_ediv]; exact div_int r 5040 (by decide)))]
    rfl
/-- all turns -/
theorem draw_turns (N : Nat) (C : Calls) (c : Int) (n0 : Nat) (b : Bool) : ∀ (n k : Nat) (r : Nat) (x6 x7 : W) (ns : List Nat), ns.length + n ≤ 1000 → (∀ x ∈ ns, x < 5040) → ∃ (ms : List Nat) (r' : Nat) (x6' x7' : W),
    forSeq (exs C drawTurn) (.nm 6) (rngUp k n) (drawE N c r n0 b x6 x7) [.lst (ns.map fun (x : Nat) => D.int x)] = some (.nx, drawE N c r' n0 b x6' x7', [.lst (ms.map fun (x : Nat) => D.int x)]) ∧ ms.length = ns.length + n ∧ ∀ x ∈ ms, x < 5040
  | 0, k, r, x6, x7, ns, _, hx => ⟨ns, r, x6, x7, rfl, rfl, hx⟩
  | n + 1, k, r, x6, x7, ns, hl, hx => by
    have hlo : lenOk (ns.map fun (x : Nat) => D.int x) = true := by
      unfold lenOk MAXL
      rw [List.length_map]
      exact Nat.ble_eq_true_of_le (by omega)
    obtain ⟨x, r1, y7, h1, h2⟩ := draw_turn N C c r n0 b k x7 _ hlo
    obtain ⟨ms, r', z6, z7, h3, h4, h5⟩ := draw_turns N C c n0 b n (k + 1) r1 (.d (.int k)) y7 (ns ++ [x]) (by simp; omega) (fun z hz => by
      rcases List.mem_append.mp hz with hz | hz
      · exact hx z hz
      · rw [List.mem_singleton.mp hz]; exact h2)
    refine ⟨ms, r', z6, z7, ?_, by rw [h4]; simp; omega, h5⟩
    show (match asgT (.nm 6) (.int k) (drawE N c r n0 b x6 x7) with
      | none => none
      | some env1 => (match exs C drawTurn env1 [.lst (ns.map fun (x : Nat) => D.int x)] with
        | some (.nx, env2, st2) => forSeq (exs C drawTurn) (.nm 6) (rngUp (k + 1) n) env2 st2
        | some (.cont, env2, st2) => forSeq (exs C drawTurn) (.nm 6) (rngUp (k + 1) n) env2 st2
        | some (.brk, env2, st2) => some (.nx, env2, st2)
        | some (.ret x, env2, st2) => some (.ret x, env2, st2)
        | none => none)) = _
    show (match exs C drawTurn (drawE N c r n0 b (.d (.int k)) x7) [.lst (ns.map fun (x : Nat) => D.int x)] with
        | some (.nx, env2, st2) => forSeq (exs C drawTurn) (.nm 6) (rngUp (k + 1) n) env2 st2
        | some (.cont, env2, st2) => forSeq (exs C drawTurn) (.nm 6) (rngUp (k + 1) n) env2 st2
        | some (.brk, env2, st2) => some (.nx, env2, st2)
        | some (.ret x, env2, st2) => some (.ret x, env2, st2)
        | none => none) = _
    rw [h1]
    show forSeq (exs C drawTurn) (.nm 6) (rngUp (k + 1) n) _ _ = _
    rw [List.map_append, List.map_singleton] at h3
    exact h3
theorem rng1_ev {C : Calls} {e : E} {env : Env} {st : St} (n : Nat) (hn : n ≤ 100) (h : ev C e env st = some (.d (.int n), st)) : evF C (.rng1 e) env st = some (.seq (rngUp 0 n), st) := by
  have h1 : small (n : Int) = true := Nat.ble_eq_true_of_le (by show n + 1 ≤ _; omega)
  have h2 : Nat.ble ((n : Int).toNat) MAXL = true := Nat.ble_eq_true_of_le (by show n ≤ 100000; omega)
  rw [Int.toNat_natCast] at h2
  simp only [evF, h, h1, Int.toNat_natCast, h2, Bool.and_self]
/-- the draws -/
theorem draws_ev (C : Calls) (c : Int) (n : Nat) (hn : n ≤ 100) : ∃ (ms : List Nat) (st : St), rets (exs C drawBody [.d (.int c), .d (.int n), .un, .un, .un, .un, .un, .un] []) = some (.lst (ms.map fun (x : Nat) => D.int x), st) ∧ ms.length = n ∧ ∀ x ∈ ms, x < 5040 := by
  have hc : ∃ b : Bool, ∀ (env : Env), getE env 2 = .d (.int c.natAbs) → ev C (.cmp .ge (.var 2) (.bin .pow false (.lit (.int 10)) (.lit (.int 18)))) env [] = some (.d (.bl b), []) := by
    refine ⟨!(ilt c.natAbs (10 ^ 18)), fun env h => ?_⟩
    have h2 : ev C (.bin .pow false (.lit (.int 10)) (.lit (.int 18))) env [] = some (.d (.int (10 ^ 18)), []) := ev_bin ev_l ev_l rfl
    have h1 : ev C (.var 2) env [] = some (.d (.int c.natAbs), []) := ev_v h
    exact ev_cmp' h1 h2 rfl
  obtain ⟨b, hb⟩ := hc
  obtain ⟨ms, r', x6, x7, h1, h2, h3⟩ := draw_turns n C c c.natAbs b n 0 c.natAbs .un .un [] (by simp; omega) (fun x hx => by cases hx)
  refine ⟨ms, [.dead], ?_, by simpa using h2, h3⟩
  have e1 : exs C drawBody [.d (.int c), .d (.int n), .un, .un, .un, .un, .un, .un] [] = some (.ret (.lst (ms.map fun (x : Nat) => D.int x)), drawE n c r' c.natAbs b x6 x7, [.dead]) := by
    unfold drawBody
    rw [exs_asg (x := .int c.natAbs) (ev_p1 (ev_p1 (ev_v (x := .int c) rfl) rfl) rfl)]
    rw [exs_asg (x := .bl b) (hb _ rfl)]
    rw [exs_asg (x := .int c.natAbs) (ev_v rfl)]
    have e2 : ∀ (env : Env) (r : List S), exs C (.asg (.nm 5) (.lst true []) :: r) env [] = exs C r (setE env 5 (.ref 0)) [.lst []] := fun env r => by
      simp only [exs, ex, ev, evD, mk]
      rfl
    rw [e2]
    have e3 : evF C (.rng1 (.var 1)) (drawE n c c.natAbs c.natAbs b .un .un) [.lst []] = some (.seq (rngUp 0 n), [.lst []]) := rng1_ev n hn (ev_v rfl)
    show exs C [.for_ (.nm 6) (.rng1 (.var 1)) drawTurn, .ret (.var 5)] (drawE n c c.natAbs c.natAbs b .un .un) [.lst []] = _
    have e4 : ex C (.for_ (.nm 6) (.rng1 (.var 1)) drawTurn) (drawE n c c.natAbs c.natAbs b .un .un) [.lst []] = some (.nx, drawE n c r' c.natAbs b x6 x7, [.lst (ms.map fun (x : Nat) => D.int x)]) := by
      simp only [ex, e3]
      exact h1
    rw [exs, e4]
    rfl
  rw [e1]
  rfl
/-! the first number -/
def takeBody : List S := [.asg (.nm 2) (.ix (.var 0) (.lit (.str [97, 116]))), .setI 0 (.lit (.str [97, 116])) (.bin .add false (.var 2) (.lit (.int 1))), .asg (.nm 3) (.ix (.var 0) (.lit (.str [100, 114, 97, 119, 115]))),
  .ret (.bin .mod false (.bin .add false (.bin .fdiv false (.prim .int false [.ix (.var 3) (.bin .mod false (.var 2) (.prim .len false [.var 3]))]) (.ix (.tup false [.lit (.int 1), .lit (.int 7), .lit (.int 59), .lit (.int 211)]) (.bin .mod false (.bin .fdiv false (.var 2) (.prim .len false [.var 3])) (.lit (.int 4)))))
    (.bin .fdiv false (.var 2) (.bin .mul false (.lit (.int 4)) (.prim .len false [.var 3])))) (.var 1))]
theorem take12 (C : Calls) (x0 x1 x2 x3 x4 x5 x6 x7 x8 x9 x10 x11 : Int) : rets (exs C takeBody [.ref 0, .d (.int 9), .un, .un] [.dct [.str [100, 114, 97, 119, 115], .str [97, 116]] [.lst [.int x0, .int x1, .int x2, .int x3, .int x4, .int x5, .int x6, .int x7, .int x8, .int x9, .int x10, .int x11], .int 0]]) = some (.int ((x0 / 1 + 0) % 9), [.dct [.str [100, 114, 97, 119, 115], .str [97, 116]] [.lst [.int x0, .int x1, .int x2, .int x3, .int x4, .int x5, .int x6, .int x7, .int x8, .int x9, .int x10, .int x11], .int 1]]) := by kernel_rfl
theorem take5_20 (C : Calls) (x0 x1 x2 x3 x4 : Int) : rets (exs C takeBody [.ref 0, .d (.int 20), .un, .un] [.dct [.str [100, 114, 97, 119, 115], .str [97, 116]] [.lst [.int x0, .int x1, .int x2, .int x3, .int x4], .int 0]]) = some (.int ((x0 / 1 + 0) % 20), [.dct [.str [100, 114, 97, 119, 115], .str [97, 116]] [.lst [.int x0, .int x1, .int x2, .int x3, .int x4], .int 1]]) := by kernel_rfl
theorem take5_6 (C : Calls) (x0 x1 x2 x3 x4 : Int) : rets (exs C takeBody [.ref 0, .d (.int 6), .un, .un] [.dct [.str [100, 114, 97, 119, 115], .str [97, 116]] [.lst [.int x0, .int x1, .int x2, .int x3, .int x4], .int 0]]) = some (.int ((x0 / 1 + 0) % 6), [.dct [.str [100, 114, 97, 119, 115], .str [97, 116]] [.lst [.int x0, .int x1, .int x2, .int x3, .int x4], .int 1]]) := by kernel_rfl
end Rf
/-! Rh1: a law that begins with its first number. -/
namespace Rf
open PySem PySem.Spec PyProof.Rows L2 PySem.W
def F0 : Hp := fun _ => none
theorem rl_base {T : List Addr} {H : Hp} (h : ∀ a ∈ T, GxR.TabG H a) : Rl T F0 [] [] H :=
  ⟨fun a o e => (nomatch e), fun a _ => rfl, h, rfl, List.nodup_nil, fun a z => (nomatch z), fun a z => (nomatch z), fun i a ob e _ => (by simp at e)⟩
theorem tab_of_empty {H : Hp} {a : Addr} (h : H a = some (.tbl #[])) : GxR.TabG H a := ⟨#[], h, True.intro⟩
theorem tab_upd {H : Hp} {a p : Addr} {o : HO} (h : GxR.TabG H a) (hp : H p = none) : GxR.TabG (upd H p o) a := by
  obtain ⟨ps, e, k⟩ := h
  exact ⟨ps, by rw [upd_ne (ne_of_none e hp)]; exact e, k⟩
def firstE (q1 q2 q3 q4 q5 q6 q7 q8 q9 q10 q11 q12 q13 q14 q15 q16 : Pos) (j1 j2 j3 j4 j5 j6 : Nat) : Stmt :=
  .Assign [.Name "first" q1] (.Call (.Name "_law_take" q2) [.Dict [some (.Constant (.str "draws") j1 q3), some (.Constant (.str "at") j2 q4)] [.Call (.Name "_law_draws" q5) [.Call (.Name "_law_cell" q6) [.Name "script" q7, .Constant (.int 0) j3 q8] [] q9, .Constant (.int 12) j4 q10] [] q11, .Constant (.int 0) j5 q12] q13, .Constant (.int 9) j6 q14] [] q15) q16
def spLaw (K : PySem.W.Frag) (T : List Addr) : Sp := fun vs H Q _ => ∃ (a : Addr) (ns : List Int), vs = [.ref a] ∧ SqL K H a (ns.map V.int) ∧ (∀ t ∈ T, H t = some (.tbl #[])) ∧ ∀ H', Q (.bl true) H'
section
variable {P : Program} {w : World} {K : PySem.W.Frag} {mg : Str → Option Value} {base : Heap} {T : List Addr} {names imp : List Str} {fns : List Fn}
theorem law_first {a : Arguments} {scope : Scope} {body rest : List Stmt} {C : Cc} {rest' : List S} {cl : Calls} {D iD iT : Nat} {fD fT : Fn} {q1 q2 q3 q4 q5 q6 q7 q8 q9 q10 q11 q12 q13 q14 q15 q16 : Pos} {j1 j2 j3 j4 j5 j6 : Nat}
    (DT : DefT P w K mg base T "law" a body scope) (hb : body = firstE q1 q2 q3 q4 q5 q6 q7 q8 q9 q10 q11 q12 q13 q14 q15 q16 j1 j2 j3 j4 j5 j6 :: rest)
    (ha : a.args.map (·.arg) = (["script"] : List Str)) (hpl : plainA a = true) (hS : fnB C.N ["script"] scope = true) (hC : C.lv = 1) (hfns : C.fns = names) (himp : C.imp = imp) (hwr : C.wr = fun _ => true) (hk : kSs C 100 scope rest = some rest')
    (h0 : C.N[0]? = some ("script" : Str)) (h1 : C.N[1]? = some ("first" : Str)) (hfirst : scope.names.lookup ("first" : Str) = some .local) (hN : C.N.length = 3) (gl : isGl scope "_law_take" = true ∧ isGl scope "_law_draws" = true ∧ isGl scope "_law_cell" = true)
    (blt : ∀ x ∈ blts, posOf x names 0 = none → mg x = none) (gcd : imp.contains "gcd" = true → mg "gcd" = some (.builtin "math.gcd")) (cmb : imp.contains "combinations" = true → mg "combinations" = some (.type "itertools.combinations"))
    (call : ∀ (x : Str) (i : Nat), posOf x names 0 = some i → ∃ run, CallO P w K mg base (4 * D) T x run ∧ ∀ ds r, cl.call i ds = some r → ∃ st', run (ds.map .d) [] = some (r, st'))
    (cell : ∃ f fd ps, mg "_law_cell" = some (.ref f) ∧ keepIn K (.ref f) = true ∧ Binds K fd ps [] ∧ FnOk P w K mg base CX0 1 f fd ps (spCell K))
    (draws : CallO P w K mg base 4 T "_law_draws" (runF fns 0 iD)) (take : CallO P w K mg base 4 T "_law_take" (runF fns 0 iT))
    (dD : nth fns iD = some fD) (dT : nth fns iT = some fT) (bD : fD.body = drawBody ∧ fD.npar = 2 ∧ fD.nslot = 8) (bT : fT.body = takeBody ∧ fT.npar = 2 ∧ fT.nslot = 4)
    (hev : ∀ r : Nat, r < 9 → ∃ env st, exs cl rest' [.un, .d (.int r), .un] [] = some (.ret (.bl true), env, st)) :
    ∃ f fd, mg "law" = some (.ref f) ∧ (∃ oc od osl, K.lookup f = some ⟨oc, od, .func fd, osl⟩) ∧ FnOk P w K mg base CX0 (4 * D + 8) f fd ["script"] (spLaw K T) := by
  obtain ⟨fa, fd, oc, od, kV, doc, pm, an, c, Pt, ct, osl, rfl, lk, hcd, TB, hP, hm, hkp⟩ := DT.ex
  have S := fnB_ok hS
  refine ⟨fa, PySem.W.fnOf "law" "law" a body scope .none kV doc pm an (.ref c) ct, hm, ⟨oc, od, osl, lk⟩, ?_⟩
  subst hb
  refine fn_of lk hcd S (fun vs H Q E h => by obtain ⟨a, ns, rfl, _⟩ := h; rfl) fun A outer s H vs Q E hr hsp => ?_
  obtain ⟨ad, ns, rfl, hSq, hT, q⟩ := hsp
  obtain ⟨f1, fd1, ps1, m1, k1, b1, F1⟩ := cell
  obtain ⟨f2, fd2, ps2, m2, k2, b2, F2⟩ := draws
  obtain ⟨f3, fd3, ps3, m3, k3, b3, F3⟩ := take
  have v0 : Vis scope "script" := (S.par "script" (by decide)).elim .inl fun h => .inr (.inl h)
  let X : Cx := (cxOf CX0 P w K mg base C.N "law" scope fa (.ref c) A outer s H E).nox
  have hr1 : Room 1 X.A := hr.mono (by omega)
  have hr4 : Room 4 X.A := hr.mono (by omega)
  have G : Gd X T C scope cl (4 * D) :=
    ⟨rfl, S.kind, rfl, rfl, S.nd, by rw [hC]; exact hr.mono (by omega), rfl, fun _ _ _ => rfl, by rw [hfns]; exact blt, by rw [himp]; exact gcd, by rw [himp]; exact cmb, by rw [hfns]; exact call, fun _ => ⟨c, Pt, TB, rfl, hP⟩⟩
  have d1 := ps_set (X := X) (pos := q16) (pos' := q1) (i := 1) S.nd h1 (.inl hfirst) (pe_call (X := X) (p := q2) (pos := q15) F3 hr4 (Gl_of gl.1) m3 k3 b3 .nil pass0 (pa_cons (pe_disp (pos := q13) (pps_cons (pe_str (x := "draws") (j := j1) (pos := q3)) (pe_call (p := q5) (pos := q11) F2 hr4 (Gl_of gl.2.1) m2 k2 b2 .nil pass0
      (pa_cons (pe_call (p := q6) (pos := q9) F1 hr1 (Gl_of gl.2.2) m1 k1 b1 .nil pass0 (pa_cons (pv (x := "script") (pos := q7) 0 (hN := h0) (hv := v0)) (pa_cons (pe_int (i := 0) (j := j3) (pos := q8)) pa_nil))) (pa_cons (pe_int (i := 12) (j := j4) (pos := q10)) pa_nil))) (pps_cons (pe_str (x := "at") (j := j2) (pos := q4)) (pe_int (i := 0) (j := j5) (pos := q12)) pps_nil)) rfl rfl (fun z => by cases z) (by show 2 ≤ 15; decide)) (pa_cons (pe_int (i := 9) (j := j6) (pos := q14)) pa_nil)))
  refine ⟨_, PSs.nox (pss_cons d1 ((sndS 100).Ss G PassesOwn.never hk)), ?_⟩
  have es : L2.start C.N [V.ref ad] = [some (.ref ad), none, none] := by
    unfold L2.start
    rw [hN]
    rfl
  rw [es]
  intro p np
  have pT : p ∉ T := fun z => by
    have := hT p z
    rw [np] at this
    cases this
  have sm : Same H (upd H p (.dK [])) := fun b o e => by rw [upd_ne (ne_of_none e np)]; exact e
  have hA : SqL K (upd H p (.dK [])) ad (ns.map V.int) := sm.seq hSq
  obtain ⟨ms, st1, e1, l1, b1⟩ := draws_ev (calls fns 0) (ns.headD 3) 12 (by decide)
  refine ⟨.ref ad, rfl, ad, ns, rfl, hA, F0, [], [], [.d (.int (ns.headD 3)), .d (.int 12)], .lst (ms.map fun (x : Nat) => Rf.D.int x), st1, rl_base fun t ht => tab_upd (tab_of_empty (hT t ht)) np, ⟨_, _, rfl, rfl, _, _, rfl, rfl, rfl⟩, ?_, fun F' ρ' H' v s' r' hv => ?_⟩
  · simp only [runF, dD, Rf.start, bD.1, bD.2.1, bD.2.2]
    exact e1
  · have hp1 : (upd H p (.dK [])) p = some (.dK []) := upd_same
    have hp2 : H' p = some (.dK []) := s'.pres p _ hp1 pT (by simp)
    have fp : F' p = none := by
      cases e : F' p with
      | none => rfl
      | some o =>
        rcases s'.new p o e with z | z | z
        · cases z
        · rw [hp1] at z; cases z
        · cases z
    have pr : p ∉ ρ' := fun z => by
      obtain ⟨more, em, hm⟩ := s'.grow
      rw [em] at z
      have := hm p (by simpa using z)
      rw [hp1] at this
      cases this
    refine ⟨hp2, [(.inr "draws", v), (.inr "at", .int 0)], rfl, by show 2 ≤ 15; decide, ?_⟩
    obtain ⟨x0, xs, rfl⟩ : ∃ x0 xs, ms = x0 :: xs := by
      cases ms with
      | nil => cases l1
      | cons x0 xs => exact ⟨x0, xs, rfl⟩
    have hms : ∃ x1 x2 x3 x4 x5 x6 x7 x8 x9 x10 x11, xs = [x1, x2, x3, x4, x5, x6, x7, x8, x9, x10, x11] := by
      match xs, l1 with
      | [x1, x2, x3, x4, x5, x6, x7, x8, x9, x10, x11], _ => exact ⟨x1, x2, x3, x4, x5, x6, x7, x8, x9, x10, x11, rfl⟩
    obtain ⟨x1, x2, x3, x4, x5, x6, x7, x8, x9, x10, x11, rfl⟩ := hms
    have hmk : mergeK [] [((.inr "draws" : Key), v), ((.inr "at" : Key), V.int 0)] = [((.inr "draws" : Key), v), ((.inr "at" : Key), V.int 0)] := rfl
    obtain ⟨m, em, lm⟩ := mod_nat ((x0 : Int) / 1 + 0) 9 (by decide)
    have r2 : Rl T F' [p] [.dct [.str [100, 114, 97, 119, 115], .str [97, 116]] [.lst ([x0, x1, x2, x3, x4, x5, x6, x7, x8, x9, x10, x11].map fun (x : Nat) => Rf.D.int x), .int 0]] (upd H' p (.dK [((.inr "draws" : Key), v), ((.inr "at" : Key), V.int 0)])) := by
      have := ((r'.other (o := .dK [((.inr "draws" : Key), v), ((.inr "at" : Key), V.int 0)]) fp pT pr).none_).add (p := p) (o := .dK [((.inr "draws" : Key), v), ((.inr "at" : Key), V.int 0)]) (ob := .dct [.str [100, 114, 97, 119, 115], .str [97, 116]] [.lst ([x0, x1, x2, x3, x4, x5, x6, x7, x8, x9, x10, x11].map fun (x : Nat) => Rf.D.int x), .int 0])
        upd_same nt_dK pT (by simp) ⟨fp, p, [v, .int 0], rfl, ⟨_, _, rfl, hv, _, _, rfl, rfl, rfl⟩, .inl ⟨[((.inr "draws" : Key), v), ((.inr "at" : Key), V.int 0)], upd_same, rfl, rfl⟩⟩
      simpa using this
    refine ⟨F', [p], _, [.ref 0, .d (.int 9)], .int m, [.dct [.str [100, 114, 97, 119, 115], .str [97, 116]] [.lst [.int x0, .int x1, .int x2, .int x3, .int x4, .int x5, .int x6, .int x7, .int x8, .int x9, .int x10, .int x11], .int 1]], r2, ⟨_, _, rfl, ⟨p, rfl, rfl⟩, _, _, rfl, rfl, rfl⟩, ?_, fun F2 ρ2 H2 v2 s2 r2 hv2 => ?_⟩
    · simp only [runF, dT, Rf.start, bT.1, bT.2.1, bT.2.2]
      rw [← em]
      exact take12 (calls fns 0) x0 x1 x2 x3 x4 x5 x6 x7 x8 x9 x10 x11
    · obtain ⟨env, st, ee⟩ := hev m (by omega)
      cases (show v2 = .int m from hv2)
      refine ⟨F0, [], [.un, .d (.int m), .un], [], .ret (.bl true), env, st, rl_base r2.tab, ⟨.inl rfl, .inr ⟨_, rfl, rfl⟩, .inl rfl, trivial⟩, ee, fun F' ρ' H' s r v hv => ?_⟩
      cases (show v = .bl true from hv)
      exact q H'
end
end Rf
/-! Rh2: a law that begins with its first number: from the looks at the text to the end. -/
namespace Rf
open PySem PySem.Spec PyProof.Rows L2 PySem.W
/-- a statement with the parts that the compiler reads -/
def stm (d : He.DefD) : Stmt := .FunctionDef d.name d.params d.body [] none [] d.scope none d.name ⟨0, 0, 0, 0⟩
def optB (f : Fn) : Option Fn := match f.nat with
  | some _ => none
  | none => some f
def isCellB : List Stmt → Bool
  | [.If (.Compare (.Name a1 p1) [.Lt] [.Call (.Name a2 p2) [.Name a3 p3] [] p4] p5) [.Return (some (.Subscript (.Name a4 p6) (.Name a5 p7) p8)) p9] [] p10,
     .Return (some (.BinOp (.BinOp (.Constant (.int 5) k1 p11) .Mult (.Name a6 p12) p13) .Add (.Constant (.int 3) k2 p14) p15)) p16] =>
    decide (a1 = "k") && decide (a2 = "len") && decide (a3 = "script") && decide (a4 = "script") && decide (a5 = "k") && decide (a6 = "k")
  | _ => false
theorem isCellB_ok {b : List Stmt} (h : isCellB b = true) : ∃ p1 p2 p3 p4 p5 p6 p7 p8 p9 p10 p11 p12 p13 p14 p15 p16 k1 k2, b = cellBody p1 p2 p3 p4 p5 p6 p7 p8 p9 p10 p11 p12 p13 p14 p15 p16 k1 k2 := by
  unfold isCellB at h
  split at h
  · simp only [Bool.and_eq_true, decide_eq_true_eq] at h
    obtain ⟨⟨⟨⟨⟨rfl, rfl⟩, rfl⟩, rfl⟩, rfl⟩, rfl⟩ := h
    exact ⟨_, _, _, _, _, _, _, _, _, _, _, _, _, _, _, _, _, _, rfl⟩
  · cases h
def isFirstB : Stmt → Bool
  | .Assign [.Name a1 q1] (.Call (.Name a2 q2) [.Dict [some (.Constant (.str a3) j1 q3), some (.Constant (.str a4) j2 q4)] [.Call (.Name a5 q5) [.Call (.Name a6 q6) [.Name a7 q7, .Constant (.int 0) j3 q8] [] q9, .Constant (.int 12) j4 q10] [] q11, .Constant (.int 0) j5 q12] q13, .Constant (.int 9) j6 q14] [] q15) q16 =>
    decide (a1 = "first") && decide (a2 = "_law_take") && decide (a3 = "draws") && decide (a4 = "at") && decide (a5 = "_law_draws") && decide (a6 = "_law_cell") && decide (a7 = "script")
  | _ => false
theorem isFirstB_ok {b : Stmt} (h : isFirstB b = true) : ∃ q1 q2 q3 q4 q5 q6 q7 q8 q9 q10 q11 q12 q13 q14 q15 q16 j1 j2 j3 j4 j5 j6, b = firstE q1 q2 q3 q4 q5 q6 q7 q8 q9 q10 q11 q12 q13 q14 q15 q16 j1 j2 j3 j4 j5 j6 := by
  unfold isFirstB at h
  split at h
  · simp only [Bool.and_eq_true, decide_eq_true_eq] at h
    obtain ⟨⟨⟨⟨⟨⟨rfl, rfl⟩, rfl⟩, rfl⟩, rfl⟩, rfl⟩, rfl⟩ := h
    exact ⟨_, _, _, _, _, _, _, _, _, _, _, _, _, _, _, _, _, _, _, _, _, _, rfl⟩
  · cases h
def cellB (d : He.DefD) : Bool := isCellB d.body && decide (d.params.args.map (·.arg) = cellN) && fnB cellN cellN d.scope && isGl d.scope "len"
def lawN : List Str := ["script", "first", "n"]
def lawC (names imp : List Str) : Cc := ⟨false, 1, fun _ => true, lawN, names, [], [], imp⟩
/-- the law's def: its first statement, its scope; the compiled rest -/
def lawB (names imp : List Str) (d : He.DefD) : Option (List S) := match d.body with
  | s :: rest => (match isFirstB s && decide (d.params.args.map (·.arg) = ([("script" : Str)] : List Str)) && fnB lawN [("script" : Str)] d.scope && decide (d.scope.names.lookup ("first" : Str) = some .local) && isGl d.scope "_law_take" && isGl d.scope "_law_draws" && isGl d.scope "_law_cell" with
    | true => kSs (lawC names imp) 100 d.scope rest
    | false => none)
  | [] => none
section
variable {P : Program} {w : World} {K : PySem.W.Frag} {mg : Str → Option Value} {base : Heap} {T : List Addr} {names imp fz : List Str} {fns : List Fn} {fn : List He.DefD}
theorem map_at {α β : Type} {f : α → β} {xs : List α} {ys : List β} (h : xs.map f = ys) {i : Nat} {x : α} (hx : xs[i]? = some x) : ys[i]? = some (f x) := by
  rw [← h, List.getElem?_map, hx]
  rfl
theorem names_at (hn : fn.map (·.name) = names) {x : Str} {i : Nat} (h : posOf x names 0 = some i) : ∃ d, fn[i]? = some d ∧ d.name = x := by
  have h2 := (posOf_at h).2
  rw [Nat.sub_zero, ← hn, List.getElem?_map] at h2
  cases e : fn[i]? with
  | none => rw [e] at h2; cases h2
  | some d => rw [e] at h2; exact ⟨d, rfl, Option.some.inj h2⟩
theorem defs_ok (hn : fn.map (·.name) = names) (hq : (fn.all fun d => decide (d.qual = d.name) && plainA d.params) = true) (cmp : fn.map (fun d => kFn fz names [] imp (stm d)) = fns.map optB)
    (DT : ∀ (i : Nat) (d : He.DefD), fn[i]? = some d → DefT P w K mg base T d.name d.params d.body d.scope)
    (hand : ∀ (x : Str) (i : Nat) (f : Fn) (g : List D → Option D), posOf x names 0 = some i → nth fns i = some f → f.nat = some g → CallO P w K mg base 4 T x (runN g)) :
    ∀ (x : Str) (i : Nat), posOf x names 0 = some i → Cpl P w K mg base T names imp fns x i ∨ Hnd P w K mg base T fns x i := by
  intro x i hx
  obtain ⟨d, hd, rfl⟩ := names_at hn hx
  have h1 := map_at cmp hd
  rw [List.getElem?_map] at h1
  cases hf : fns[i]? with
  | none => rw [hf] at h1; cases h1
  | some f =>
    rw [hf] at h1
    have h1 : optB f = kFn fz names [] imp (stm d) := Option.some.inj h1
    have hf' : nth fns i = some f := by rw [nth_eq]; exact hf
    have hqd := List.all_eq_true.mp hq d (List.mem_of_getElem? hd)
    rw [Bool.and_eq_true] at hqd
    cases hnat : f.nat with
    | some g => exact .inr ⟨f, g, hf', hnat, hand d.name i f g hx hf' hnat⟩
    | none =>
      have e : optB f = some f := by unfold optB; rw [hnat]
      rw [e] at h1
      exact .inl ⟨fz, [], d.params, d.body, d.scope, stm d, f, DT i d hd, hqd.2, rfl, rfl, rfl, rfl, h1.symm, hf'⟩
theorem calls_le {cl : Calls} {D : Nat} (hcl : ∀ i ds r, cl.call i ds = some r → (calls fns D).call i ds = some r) (h : ∀ (x : Str) (i : Nat), posOf x names 0 = some i → ∃ run, CallO P w K mg base (4 * D) T x run ∧ ∀ ds r, (calls fns D).call i ds = some r → ∃ st', run (ds.map .d) [] = some (r, st')) :
    ∀ (x : Str) (i : Nat), posOf x names 0 = some i → ∃ run, CallO P w K mg base (4 * D) T x run ∧ ∀ ds r, cl.call i ds = some r → ∃ st', run (ds.map .d) [] = some (r, st') := fun x i hx => by
  obtain ⟨run, h1, h2⟩ := h x i hx
  exact ⟨run, h1, fun ds r e => h2 ds r (hcl i ds r e)⟩
end
/-- the hand-proved defs' part -/
def HandOk (names : List Str) (fns : List Fn) (fn : List He.DefD) (vs : List (Str × Option Value)) : Prop := ∀ (P : Program) (w : World) (K : PySem.W.Frag) (mg : Str → Option Value) (base : Heap) (T : List Addr),
  (∀ (i : Nat) (d : He.DefD), fn[i]? = some d → DefT P w K mg base T d.name d.params d.body d.scope) → (∀ p ∈ vs, mg p.1 = p.2) →
    ∀ (x : Str) (i : Nat) (f : Fn) (g : List D → Option D), posOf x names 0 = some i → nth fns i = some f → f.nat = some g → CallO P w K mg base 4 T x (runN g)
theorem law_end {l : OpenLaw} {names imp fz : List Str} {fns : List Fn} {fn : List He.DefD} {vs : List (Str × Option Value)} {rest' : List S} {cl : Calls} {D iC iD iT iL : Nat}
    (hn : fn.map (·.name) = names) (hq : (fn.all fun d => decide (d.qual = d.name) && plainA d.params) = true) (cmp : fn.map (fun d => kFn fz names [] imp (stm d)) = fns.map optB)
    (hv1 : ∀ x ∈ blts, (x, none) ∈ vs) (hv2 : imp.contains "gcd" = true → ((("gcd" : Str), some (Value.builtin "math.gcd")) ∈ vs)) (hv3 : imp.contains "combinations" = true → ((("combinations" : Str), some (Value.type "itertools.combinations")) ∈ vs))
    (hC : posOf "_law_cell" names 0 = some iC) (hD : posOf "_law_draws" names 0 = some iD) (hT : posOf "_law_take" names 0 = some iT) (hL : posOf "law" names 0 = some iL)
    (fC : (fn[iC]?).map cellB = some true) (fL : (fn[iL]?).bind (lawB names imp) = some rest') (fD : nth fns iD = some ⟨2, 8, drawBody, none⟩) (fT : nth fns iT = some ⟨2, 4, takeBody, none⟩)
    (hand : HandOk names fns fn vs) (hcl : ∀ i ds r, cl.call i ds = some r → (calls fns D).call i ds = some r) (hev : ∀ r : Nat, r < 9 → (rets (exs cl rest' [.un, .d (.int r), .un] [])).map (·.1) = some (.bl true)) :
    ∀ (w : World) (mg : Str → Option Value) (fa : Addr) (h : Heap) (K0 K : Frag) (L : List Pl), SaysT vs fn h K0 K L → h.Ns mainGlobals mg → mg "law" = some (.ref fa) →
      ∃ (fd : FuncData) (sp : Sp), (∀ (s : Shared) (u : Value), BindsTo s fd ⟨[u], []⟩ [("script", u)]) ∧
        (∀ (H : Hp) (a : Addr) (ns : List Int), ns.length ≤ 63 → (∀ p ∈ L, H p.2.2 = some (.tbl #[])) → SqL K H a (ns.map V.int) → sp [.ref a] H (fun v _ => v = .bl true) fun _ _ _ => False) ∧
        ∀ base : Heap, K.In base → base.Ns mainGlobals mg → (∀ p ∈ L.map (·.2), LamX.TabB base mg p.1 p.2) → FnOk l.prog w K mg base CX0 (4 * D + 8) fa fd ["script"] sp := by
  intro w mg fa h K0 K L SY G hm
  have vals : ∀ p ∈ vs, mg p.1 = p.2 := fun p hp => by
    obtain ⟨x, o⟩ := p
    cases o with
    | none => exact SY.mg_no G hp
    | some v => exact SY.mg_val G hp
  have core : ∀ base : Heap, base.Ns mainGlobals mg → (∀ p ∈ L.map (·.2), LamX.TabB base mg p.1 p.2) → ∃ f fd, mg "law" = some (.ref f) ∧ (∃ oc od osl, K.lookup f = some ⟨oc, od, .func fd, osl⟩) ∧ FnOk l.prog w K mg base CX0 (4 * D + 8) f fd ["script"] (spLaw K (L.map (·.2.2))) := by
    intro base Gb TB
    have DT : ∀ (i : Nat) (d : He.DefD), fn[i]? = some d → DefT l.prog w K mg base (L.map (·.2.2)) d.name d.params d.body d.scope := fun i d hd => by
      have hqd := List.all_eq_true.mp hq d (List.mem_of_getElem? hd)
      rw [Bool.and_eq_true] at hqd
      exact SY.defT G TB hd (of_decide_eq_true hqd.1)
    have hpl : ∀ (i : Nat) (d : He.DefD), fn[i]? = some d → plainA d.params = true := fun i d hd => by
      have hqd := List.all_eq_true.mp hq d (List.mem_of_getElem? hd)
      rw [Bool.and_eq_true] at hqd
      exact hqd.2
    have blt : ∀ x ∈ blts, posOf x names 0 = none → mg x = none := fun x hx _ => vals _ (hv1 x hx)
    have gcd : imp.contains "gcd" = true → mg "gcd" = some (.builtin "math.gcd") := fun hi => vals _ (hv2 hi)
    have cmb : imp.contains "combinations" = true → mg "combinations" = some (.type "itertools.combinations") := fun hi => vals _ (hv3 hi)
    have ok := defs_ok hn hq cmp DT (hand l.prog w K mg base (L.map (·.2.2)) DT vals)
    have ms := mod_sound (fns := fns) blt gcd cmb ok
    have hdr : ∀ {x : Str} {i : Nat} {f : Fn}, posOf x names 0 = some i → nth fns i = some f → f.nat = none → CallO l.prog w K mg base 4 (L.map (·.2.2)) x (runF fns 0 i) := fun {x i f} hx hf hnat => by
      rcases ok x i hx with c | ⟨f', g, h1, h2, _⟩
      · exact cpl_sound blt gcd cmb (ms 0) c
      · rw [hf] at h1; cases h1; rw [hnat] at h2; cases h2
    obtain ⟨dC, eC, nC⟩ := names_at hn hC
    obtain ⟨dL, eL, nL⟩ := names_at hn hL
    rw [eC] at fC
    have fC : cellB dC = true := Option.some.inj fC
    unfold cellB at fC
    simp only [Bool.and_eq_true, decide_eq_true_eq] at fC
    obtain ⟨⟨⟨c1, c2⟩, c3⟩, c4⟩ := fC
    obtain ⟨p1, p2, p3, p4, p5, p6, p7, p8, p9, p10, p11, p12, p13, p14, p15, p16, k1, k2, eb⟩ := isCellB_ok c1
    have DC := DT iC dC eC
    rw [nC] at DC
    have cell := ok_cell DC eb c2 (hpl iC dC eC) c3 c4 (vals ("len", none) (hv1 "len" (by decide)))
    rw [eL] at fL
    have fL : lawB names imp dL = some rest' := fL
    unfold lawB at fL
    split at fL
    · rename_i s rest hbody
      split at fL
      · rename_i hchk
        simp only [Bool.and_eq_true, decide_eq_true_eq] at hchk
        obtain ⟨⟨⟨⟨⟨⟨l1, l2⟩, l3⟩, l4⟩, l5⟩, l6⟩, l7⟩ := hchk
        obtain ⟨q1, q2, q3, q4, q5, q6, q7, q8, q9, q10, q11, q12, q13, q14, q15, q16, j1, j2, j3, j4, j5, j6, rfl⟩ := isFirstB_ok l1
        have DL := DT iL dL eL
        rw [nL] at DL
        refine law_first (C := lawC names imp) (cl := cl) (D := D) DL hbody l2 (hpl iL dL eL) l3 rfl rfl rfl rfl fL rfl rfl l4 rfl ⟨l5, l6, l7⟩ blt gcd cmb (calls_le hcl (ms D)) cell (hdr hD fD rfl) (hdr hT fT rfl) fD fT ⟨rfl, rfl, rfl⟩ ⟨rfl, rfl, rfl⟩ fun r hr => ?_
        have := hev r hr
        cases e : exs cl rest' [.un, .d (.int r), .un] [] with
        | none => rw [e] at this; cases this
        | some x =>
          obtain ⟨fl, env, st⟩ := x
          rw [e] at this
          cases fl with
          | ret x => cases this; exact ⟨env, st, rfl⟩
          | nx => cases this
          | brk => cases this
          | cont => cases this
      · cases fL
    · cases fL
  obtain ⟨dL, eL, nL⟩ := names_at hn hL
  obtain ⟨p, g1, g2, g3, ⟨oc, od, fd, osl, g4, g5, g6⟩, _⟩ := SY.def_ iL dL eL
  rw [nL] at g2
  have hf : fa = p.1 := by
    have := mg_of SY.k0 G g2
    rw [hm] at this
    cases this
    rfl
  have hpl : plainA dL.params = true := by
    have hqd := List.all_eq_true.mp hq dL (List.mem_of_getElem? eL)
    rw [Bool.and_eq_true] at hqd
    exact hqd.2
  have hpar : fd.params = dL.params := by
    have e : fnV K p.1 = some (fd.name, fd.qualname, fd.params, fd.body, fd.scope, fd.globals, fd.closure, fd.builtins) := by
      unfold fnV
      rw [g4]
    rw [g3] at e
    simp only [He.DefD.val, Option.some.injEq, Prod.mk.injEq] at e
    exact e.2.2.1.symm
  have harg : dL.params.args.map (·.arg) = ([("script" : Str)] : List Str) := by
    rw [eL] at fL
    have fL : lawB names imp dL = some rest' := fL
    unfold lawB at fL
    split at fL
    · split at fL
      · rename_i hchk
        simp only [Bool.and_eq_true, decide_eq_true_eq] at hchk
        exact hchk.1.1.1.1.1.2
      · cases fL
    · cases fL
  refine ⟨fd, spLaw K (L.map (·.2.2)), fun s u => .of_eq ?_, fun H a ns _ hp hS => ⟨a, ns, rfl, hS, fun t ht => ?_, fun _ => rfl⟩, fun base _ Gb TB => ?_⟩
  · have hl : ([u] : List Value).length = fd.params.args.length := by
      rw [hpar, ← List.length_map (f := fun x : Arg => x.arg), harg]
      rfl
    rw [bind_plain (fd := fd) (us := [u]) (by rw [hpar]; exact hpl) g6 (by rw [hpar, harg]; decide) hl, hpar, harg]
    rfl
  · obtain ⟨q, hq, rfl⟩ := List.mem_map.mp ht
    exact hp q hq
  · obtain ⟨f, fd', h1, ⟨oc', od', osl', h2⟩, h3⟩ := core base Gb TB
    rw [hm] at h1
    cases h1
    rw [hf, g4] at h2
    cases h2
    exact h3
end Rf
/-! Rh3: a list of lists that are pushed into. -/
namespace Rf
open PySem PySem.Spec PyProof.Rows L2 PySem.W
section
variable {X : Cx} {T : List Addr} {cl : Calls}
/-- [[] for _ in ..]: lists that are all new -/
theorem lol_step {it : E} {own : List Nat} {su : Nat} {σ : L2.St} {H F : Hp} {Q : VK} {env : Env} {ds : List D} (ht : tgIn own (.nm su) = true) (r : Rl T F [] [] H) (hE : RE F [] env σ) (h1 : evF cl it env [] = some (.seq ds, [])) (hm : ds.length < sizeLine)
    (fin : ∀ (F' H' : Hp) (f : Addr) (as : List Addr), Step T F [] H F' [] H' → Rl T F' [] [] H' → H' f = some (.lst (as.map V.ref)) → as.length = ds.length → as.Nodup → f ∉ as → H f = none → F' f = none → f ∉ T → (∀ a ∈ as, H' a = some (.lst []) ∧ H a = none ∧ F' a = none ∧ a ∉ T) → Q (.ref f) H') :
    tLc (tIv T (evF cl it)) (tTg T (.nm su)) (tTs T (tests (evT cl []))) (tEv T (ev cl (.lst true []))) own σ H Q := by
  refine ⟨F, [], env, [], .seq ds, [], r, hE, h1, fun F1 ρ1 H1 J s1 r1 hJ D hD => ?_⟩
  have e1 := nil_of r1
  subst e1
  obtain ⟨fD, TD, _⟩ := r1.none_of hD
  have hH0 : H D = none := s1.back hD
  refine ⟨fun i m Hi => ∃ (F2 : Hp) (as : List Addr), Step T F [] H F2 [] Hi ∧ Le F1 F2 ∧ Rl T F2 [] [] Hi ∧ Hi D = some (.lst (as.map V.ref)) ∧ F2 D = none ∧ as.length = i ∧ as.Nodup ∧ D ∉ as ∧ (∀ a ∈ as, Hi a = some (.lst []) ∧ H a = none ∧ F2 a = none ∧ a ∉ T) ∧ m = ds.length - i ∧ i ≤ ds.length,
    ⟨ds.length, F1, [], s1.over hH0, Le.refl, r1.other fD TD (by simp), upd_same, fD, rfl, .nil, by simp, by simp, by simp, by simp⟩, ?_⟩
  rintro i m Hi ⟨F2, as, s2, l2, r2, hDi, f2, hlen, nd, hDa, hp, em, hi⟩
  have J1 := hJ i F2 [] [] Hi l2 ⟨[], rfl⟩ r2
  by_cases hlt : i < ds.length
  · have hx : nth ds i = some ds[i] := by rw [nth_eq]; exact List.getElem?_eq_getElem hlt
    simp only [nxt, hx] at J1
    refine .inr ⟨J1.1, fun H' => ∃ (F3 : Hp) (as3 : List Addr), Step T F [] H F3 [] H' ∧ Le F1 F3 ∧ Rl T F3 [] [] H' ∧ H' D = some (.lst (as3.map V.ref)) ∧ F3 D = none ∧ as3.length = i + 1 ∧ as3.Nodup ∧ D ∉ as3 ∧ (∀ a ∈ as3, H' a = some (.lst []) ∧ H a = none ∧ F3 a = none ∧ a ∉ T), ?_, ?_⟩
    · rintro H' ⟨F3, as3, q1, q2, q3, q4, q5, q6, q7, q8, q9⟩
      exact ⟨ds.length - (i + 1), by omega, F3, as3, q1, q2, q3, q4, q5, q6, q7, q8, q9, rfl, hlt⟩
    · intro x H2 hy
      obtain ⟨F3, s3, r3, hx3⟩ := J1.2 x H2 hy
      refine ⟨F3, [], wipeE env own, [], ds[i], setE (wipeE env own) su (.d ds[i]), r3, ((RE.wipe hE own).step s2).step s3, hx3, rfl, fun σ2 hE2 ow => ⟨(ow own ht).trans (wipe_sub fun _ h => h), ?_⟩⟩
      refine ⟨F3, _, true, r3, hE2, rfl, fun F4 H4 s4 r4 => ?_⟩
      show if true = true then _ else _
      rw [if_pos rfl]
      have S4 := s3.trans s4
      have hD4 : H4 D = some (.lst (as.map V.ref)) := S4.pres D _ hDi TD (by simp)
      have f4 := S4.keepN hDi f2
      have p4 : ∀ a ∈ as, H4 a = some (.lst []) ∧ H a = none ∧ F4 a = none ∧ a ∉ T := fun a ha => by
        obtain ⟨h1, h2, h3, h4⟩ := hp a ha
        exact ⟨S4.pres a _ h1 h4 (by simp), h2, S4.keepN h1 h3, h4⟩
      refine ⟨F4, [], _, [], .ref 0, [.lst []], r4, hE2.step s4, rfl, fun F5 ρ5 H5 y s5 r5 w6 => ?_⟩
      obtain ⟨a, ha, rfl⟩ := w6
      obtain ⟨fa, b, us, e2, hHa, hd⟩ := r5.obs 0 a (.lst []) ha rfl
      cases e2
      cases hd
      obtain ⟨more, em5, hmore⟩ := s5.grow
      have ham : a ∈ ρ5 := List.mem_of_getElem? ha
      have hn4 : H4 a = none := hmore a (by rw [em5] at ham; simpa using ham)
      have hTa : a ∉ T := r5.nTr a ham
      have S5 := s5.drop
      have hDa5 : D ≠ a := fun z => by rw [z, hn4] at hD4; cases hD4
      have hD5 : H5 D = some (.lst (as.map V.ref)) := S5.pres D _ hD4 TD (by simp)
      have f5 : F5 D = none := S5.keepN hD4 f4
      have hn0 : H a = none := ((s2.trans S4).back hn4)
      have S05 := (s2.trans S4).trans S5
      refine ⟨as.map V.ref, hD5, by rw [List.length_map]; omega, F5, as ++ [a], S05.over hH0, (l2.trans S4.le).trans S5.le, (r5.none_).other f5 TD (by simp), by rw [upd_same]; simp, f5, by simp [hlen], ?_, ?_, ?_⟩
      · rw [List.nodup_append]
        refine ⟨nd, by simp, fun b hb c hc z => ?_⟩
        have hc : c = a := by simpa using hc
        rw [z, hc] at hb
        have := (p4 a hb).1
        rw [hn4] at this
        cases this
      · intro z
        rcases List.mem_append.mp z with z | z
        · exact hDa z
        · exact hDa5 (by simpa using z)
      · intro b hb
        rcases List.mem_append.mp hb with z | z
        · obtain ⟨h1, h2, h3, h4⟩ := p4 b z
          exact ⟨by rw [upd_ne (fun e => hDa (by rw [← e]; exact z))]; exact S5.pres b _ h1 h4 (by simp), h2, S5.keepN h1 h3, h4⟩
        · have z : b = a := by simpa using z
          rw [z]
          exact ⟨by rw [upd_ne (Ne.symm hDa5)]; exact hHa, hn0, fa, hTa⟩
  · have ei : i = ds.length := by omega
    subst ei
    have hx : nth ds ds.length = none := by rw [nth_eq]; exact List.getElem?_eq_none (Nat.le_refl _)
    simp only [nxt, hx, stopAt_self] at J1
    exact .inl ⟨J1, fin F2 Hi D as s2 r2 hDi hlen nd hDa hH0 f2 TD hp⟩
/-- x[i].append(y) -/
def tPush (sf si sj : Nat) : TS := fun D σ H => ∃ (f : Addr) (as : List Addr) (i : Nat) (j : Int) (a : Addr) (xs : List V), σ[sf]? = some (some (.ref f)) ∧ σ[si]? = some (some (.int i)) ∧ σ[sj]? = some (some (.int j)) ∧ H f = some (.lst (as.map V.ref)) ∧ as[i]? = some a ∧ H a = some (.lst xs) ∧ xs.length < sizeLine ∧ D.nx σ (upd H a (.lst (xs ++ [.int j])))
theorem ps_push {sf si sj : Nat} {x y z : Str} {p p1 p2 p3 apos cpos spos : Pos} (hl : (apos.endLine == cpos.line) = true) (hx : X.N[sf]? = some x) (vx : Vis X.env.scope x) (nx : okName x = true) (hy : X.N[si]? = some y) (vy : Vis X.env.scope y) (ny : okName y = true) (hz : X.N[sj]? = some z) (vz : Vis X.env.scope z) (nz : okName z = true) :
    PS X (.Expr (.Call (.Attribute (.Subscript (.Name x p) (.Name y p1) p2) ("append" : Str) apos) [.Name z p3] [] cpos) spos) (tPush sf si sj) := by
  unfold okName at nx ny nz
  rw [Bool.and_eq_true] at nx ny nz
  have v1 := pe_var (X := X) (pos := p) hx vx (by simpa using nx.1) (by simpa using nx.2)
  have v2 := pe_var (X := X) (pos := p1) hy vy (by simpa using ny.1) (by simpa using ny.2)
  have v3 := pe_var (X := X) (pos := p3) hz vz (by simpa using nz.1) (by simpa using nz.2)
  have h1 := pe_ix (pos := p2) ix_list v1 v2 (subscripted_plain rfl)
  refine (ps_expr (pe_bm (cpos := cpos) (apos := apos) PySem.F.plainAttrs_list PySem.F.slot_list_append PySem.F.type_list_append mt_append h1 (pa_1 rfl v3) rfl (few1 rfl X.env) hl (starEach_plain rfl [] X.env) rfl) rfl).mono fun D σ H ⟨f, as, i, j, a, xs, e1, e2, e3, hf, ha, hH, hn, q⟩ => ?_
  refine ⟨.ref f, e1, .int i, e2, f, as.map V.ref, i, .ref a, rfl, rfl, SqL.of hf, ?_, ?_, ?_⟩
  · have hi : i < as.length := (List.getElem?_eq_some_iff.mp ha).1
    have e : L2.ixN (as.map V.ref).length (i : Int) = some i := by
      unfold L2.ixN
      rw [if_pos (by omega), if_pos (by rw [List.length_map]; omega)]
      simp
    unfold atI
    rw [e]
    show (as.map V.ref)[i]? = _
    rw [List.getElem?_map, ha]
    rfl
  · exact .inl ⟨rfl, xs, SqL.of hH⟩
  · exact ⟨.int j, e3, a, xs, .int j, rfl, rfl, hH, hn, q⟩
end
/-! the lists -/
def insL : List (List Int) → Nat → Int → List (List Int)
  | [], _, _ => []
  | a :: r, 0, x => (a ++ [x]) :: r
  | a :: r, k + 1, x => a :: insL r k x
theorem insL_len : ∀ (l : List (List Int)) (k : Nat) (x : Int), (insL l k x).length = l.length
  | [], _, _ => rfl
  | a :: r, 0, x => rfl
  | a :: r, k + 1, x => by simp [insL, insL_len r k x]
theorem insL_at : ∀ (l : List (List Int)) (k : Nat) (x : Int) (i : Nat), (insL l k x)[i]? = if i = k then (l[i]?).map (· ++ [x]) else l[i]?
  | [], k, x, i => by simp [insL]
  | a :: r, 0, x, 0 => by simp [insL]
  | a :: r, 0, x, i + 1 => by simp [insL]
  | a :: r, k + 1, x, 0 => by simp [insL]
  | a :: r, k + 1, x, i + 1 => by
    have := insL_at r k x i
    simp only [insL, List.getElem?_cons_succ, this]
    by_cases h : i = k
    · rw [if_pos h, if_pos (by omega)]
    · rw [if_neg h, if_neg (by omega)]
theorem insL_le {b : Nat} : ∀ {l : List (List Int)} {k : Nat} {x : Int}, (∀ y ∈ l, y.length ≤ b) → ∀ y ∈ insL l k x, y.length ≤ b + 1
  | [], k, x, h, y, hy => by cases hy
  | a :: r, 0, x, h, y, hy => by
    rcases List.mem_cons.mp hy with rfl | hy
    · have := h a (List.mem_cons_self ..)
      simp
      exact this
    · exact Nat.le_succ_of_le (h y (List.mem_cons_of_mem _ hy))
  | a :: r, k + 1, x, h, y, hy => by
    rcases List.mem_cons.mp hy with rfl | hy
    · exact Nat.le_succ_of_le (h y (List.mem_cons_self ..))
    · exact insL_le (fun z hz => h z (List.mem_cons_of_mem _ hz)) y hy
def goE (n : Nat) : List D → List (List Int) → Option (List (List Int))
  | [], l => some l
  | .tup _ [.int (.ofNat i), .int (.ofNat j)] :: r, l => (match Nat.blt i n && Nat.blt j n with
    | true => goE n r (insL (insL l i (.ofNat j)) j (.ofNat i))
    | false => none)
  | _ :: _, _ => none
theorem goE_cons {n : Nat} {d : D} {r : List D} {l m : List (List Int)} (h : goE n (d :: r) l = some m) : ∃ (k : Bool) (i j : Nat), d = .tup k [.int i, .int j] ∧ i < n ∧ j < n ∧ goE n r (insL (insL l i j) j i) = some m := by
  unfold goE at h
  split at h
  · rename_i e; cases e
  · rename_i l' k i j r' e
    cases e
    split at h
    · rename_i hb
      rw [Bool.and_eq_true] at hb
      exact ⟨k, i, j, rfl, Nat.blt_eq.mp hb.1, Nat.blt_eq.mp hb.2, h⟩
    · cases h
  · cases h
def LolAt (H : Hp) (as : List Addr) (ls : List (List Int)) : Prop := ls.length = as.length ∧ ∀ (k : Nat) (a : Addr) (l : List Int), as[k]? = some a → ls[k]? = some l → H a = some (.lst (l.map V.int))
theorem LolAt.at {H : Hp} {as : List Addr} {ls : List (List Int)} (h : LolAt H as ls) {i : Nat} (hi : i < as.length) : ∃ a l, as[i]? = some a ∧ ls[i]? = some l ∧ H a = some (.lst (l.map V.int)) := by
  have hi2 : i < ls.length := by rw [h.1]; exact hi
  exact ⟨as[i], ls[i], List.getElem?_eq_getElem hi, List.getElem?_eq_getElem hi2, h.2 i _ _ (List.getElem?_eq_getElem hi) (List.getElem?_eq_getElem hi2)⟩
theorem LolAt.push {H : Hp} {as : List Addr} {ls : List (List Int)} (h : LolAt H as ls) (nd : as.Nodup) {i : Nat} {a : Addr} {l : List Int} {x : Int} (ha : as[i]? = some a) (hl : ls[i]? = some l) : LolAt (upd H a (.lst (l.map V.int ++ [.int x]))) as (insL ls i x) := by
  refine ⟨by rw [insL_len]; exact h.1, fun k b m hb hm => ?_⟩
  rw [insL_at] at hm
  by_cases hk : k = i
  · subst hk
    rw [if_pos rfl, hl] at hm
    cases hm
    rw [ha] at hb
    cases hb
    rw [upd_same]
    simp
  · rw [if_neg hk] at hm
    have hne : b ≠ a := fun z => by
      subst z
      obtain ⟨h1, e1⟩ := List.getElem?_eq_some_iff.mp ha
      obtain ⟨h2, e2⟩ := List.getElem?_eq_some_iff.mp hb
      exact hk ((List.getElem_inj nd).mp (e2.trans e1.symm))
    rw [upd_ne hne]
    exact h.2 k b m hb hm
theorem LolAt.keep {H H' : Hp} {as : List Addr} {ls : List (List Int)} (h : LolAt H as ls) (k : ∀ a ∈ as, ∀ o, H a = some o → H' a = some o) : LolAt H' as ls := ⟨h.1, fun i a l ha hl => k a (List.mem_of_getElem? ha) _ (h.2 i a l ha hl)⟩
theorem re_un7 {F : Hp} {ρ : List Addr} : ∀ {σ : L2.St}, σ.length = 7 → RE F ρ [.un, .un, .un, .un, .un, .un, .un] σ
  | [a, b, c, d, e, f, g], _ => ⟨.inl rfl, .inl rfl, .inl rfl, .inl rfl, .inl rfl, .inl rfl, .inl rfl, trivial⟩
theorem re_len {F : Hp} {ρ : List Addr} : ∀ {env : Env} {σ : L2.St}, RE F ρ env σ → σ.length = env.length
  | [], [], _ => rfl
  | w :: r, o :: t, h => by rw [List.length_cons, List.length_cons, re_len h.2]
  | [], _ :: _, h => h.elim
  | _ :: _, [], h => h.elim
/-- what stands around the loop -/
structure LolOk (T : List Addr) (F0 H0 F H : Hp) (σ : L2.St) (f : Addr) (as : List Addr) (ls : List (List Int)) : Prop where
  step : Step T F0 [] H0 F [] H
  rl : Rl T F [] [] H
  len : σ.length = 7
  slot : σ[3]? = some (some (.ref f))
  fH : H f = some (.lst (as.map V.ref))
  fF : F f = none
  fA : f ∉ as
  fT : f ∉ T
  f0 : H0 f = none
  own : ∀ a ∈ as, H0 a = none ∧ F a = none ∧ a ∉ T
  nd : as.Nodup
  at_ : LolAt H as ls
section
variable {X : Cx} {T : List Addr} {cl : Calls}
theorem LolOk.push {F0 H0 F H : Hp} {σ : L2.St} {f : Addr} {as : List Addr} {ls : List (List Int)} (h : LolOk T F0 H0 F H σ f as ls) {i : Nat} {a : Addr} {l : List Int} {x : Int} (ha : as[i]? = some a) (hl : ls[i]? = some l) : LolOk T F0 H0 F (upd H a (.lst (l.map V.int ++ [.int x]))) σ f as (insL ls i x) := by
  have hm := List.mem_of_getElem? ha
  obtain ⟨o1, o2, o3⟩ := h.own a hm
  exact ⟨h.step.over o1, h.rl.other o2 o3 (by simp), h.len, h.slot, by rw [upd_ne (fun z => h.fA (by rw [z]; exact hm))]; exact h.fH, h.fF, h.fA, h.fT, h.f0, h.own, h.nd, h.at_.push h.nd ha hl⟩
theorem LolOk.move {F0 H0 F H F' H' : Hp} {σ : L2.St} {f : Addr} {as : List Addr} {ls : List (List Int)} (h : LolOk T F0 H0 F H σ f as ls) (s : Step T F [] H F' [] H') (r : Rl T F' [] [] H') : LolOk T F0 H0 F' H' σ f as ls := by
  refine ⟨h.step.trans s, r, h.len, h.slot, s.pres f _ h.fH h.fT (by simp), s.keepN h.fH h.fF, h.fA, h.fT, h.f0, fun a ha => ?_, h.nd, h.at_.keep fun a ha o e => s.pres a o e (h.own a ha).2.2 (by simp)⟩
  obtain ⟨o1, o2, o3⟩ := h.own a ha
  obtain ⟨k, hk⟩ := List.getElem?_of_mem ha
  have hlt := (List.getElem?_eq_some_iff.mp hk).1
  obtain ⟨b, l, hb, _, hH⟩ := h.at_.at hlt
  rw [hk] at hb
  cases hb
  exact ⟨o1, s.keepN hH o2, o3⟩
theorem lol_for {it : E} {D : Ends} {σ : L2.St} {F0 H0 F H : Hp} {f : Addr} {as : List Addr} {ls fl : List (List Int)} {env : Env} {ds : List Rf.D} (h : LolOk T F0 H0 F H σ f as ls) (hE : RE F [] env σ) (h1 : evF cl it env [] = some (.seq ds, [])) (hds : ds.length ≤ 100000) (hb : ∀ l ∈ ls, l.length = 0)
    (hgo : goE as.length ds ls = some fl) (fin : ∀ (F' H' : Hp) (σ' : L2.St), LolOk T F0 H0 F' H' σ' f as fl → D.nx σ' H') :
    tFor (tIv T (evF cl it)) (tTg T (.tp [.nm 4, .nm 5])) (tSeq (tPush 3 4 5) (tSeq (tPush 3 5 4) tNext)) D σ H := by
  refine ⟨F, [], env, [], .seq ds, [], h.rl, hE, h1, fun F1 ρ1 H1 J s1 r1 hJ => ?_⟩
  have e1 := nil_of r1
  subst e1
  have h' := h.move s1 r1
  refine ⟨fun i m σ H => ∃ (F2 : Hp) (ls2 : List (List Int)), LolOk T F0 H0 F2 H σ f as ls2 ∧ Le F1 F2 ∧ (∀ l ∈ ls2, l.length ≤ 2 * i) ∧ goE as.length (ds.drop i) ls2 = some fl ∧ m = ds.length - i ∧ i ≤ ds.length, ⟨ds.length, F1, ls, h', Le.refl, fun l hl => by rw [hb l hl]; exact Nat.zero_le _, by simpa using hgo, by simp, by simp⟩, ?_⟩
  rintro i m σ2 H2 ⟨F2, ls2, L2, l2, b2, g2, em, hi⟩
  have J1 := hJ i F2 [] [] H2 l2 ⟨[], rfl⟩ L2.rl
  by_cases hlt : i < ds.length
  · have hx : nth ds i = some ds[i] := by rw [nth_eq]; exact List.getElem?_eq_getElem hlt
    simp only [nxt, hx] at J1
    have hdr : ds.drop i = ds[i] :: ds.drop (i + 1) := List.drop_eq_getElem_cons hlt
    rw [hdr] at g2
    obtain ⟨k, a, b, ed, ha, hb2, g3⟩ := goE_cons g2
    refine .inr ⟨J1.1, fun σ' H' => ∃ (F2 : Hp) (ls2 : List (List Int)), LolOk T F0 H0 F2 H' σ' f as ls2 ∧ Le F1 F2 ∧ (∀ l ∈ ls2, l.length ≤ 2 * (i + 1)) ∧ goE as.length (ds.drop (i + 1)) ls2 = some fl, fun σ' H' ⟨F3, ls3, q1, q2, q3, q4⟩ => ⟨ds.length - (i + 1), by omega, F3, ls3, q1, q2, q3, q4, rfl, hlt⟩, fun x H3 hy => ?_⟩
    obtain ⟨F3, s3, r3, hx3⟩ := J1.2 x H3 hy
    have L3 := L2.move s3 r3
    rw [ed] at hx3
    refine ⟨F3, [], [.un, .un, .un, .un, .un, .un, .un], [], _, [.un, .un, .un, .un, .d (.int a), .d (.int b), .un], r3, re_un7 L3.len, hx3, rfl, fun σ4 hE4 ow => ?_⟩
    have hw := ow [4, 5] rfl
    obtain ⟨v1, e4, w4⟩ := RE.get (i := 4) hE4 rfl (by show W.d _ ≠ W.un; simp)
    obtain ⟨v2, e5, w5⟩ := RE.get (i := 5) hE4 rfl (by show W.d _ ≠ W.un; simp)
    cases (show v1 = .int a from w4)
    cases (show v2 = .int b from w5)
    have e3 : σ4[3]? = some (some (.ref f)) := by
      rw [← wipe_out (σ := σ4) (vs := [4, 5]) (by decide), hw, wipe_out (by decide)]
      exact L3.slot
    have L4 : LolOk T F0 H0 F3 H3 σ4 f as ls2 := ⟨L3.step, L3.rl, re_len hE4, e3, L3.fH, L3.fF, L3.fA, L3.fT, L3.f0, L3.own, L3.nd, L3.at_⟩
    obtain ⟨aa, la, p1, p2, p3⟩ := L4.at_.at ha
    have hsz : ∀ l ∈ ls2, l.length + 2 < sizeLine := fun l hl => by
      have := b2 l hl
      rw [sizeLine_eq]
      omega
    refine ⟨f, as, a, b, aa, la.map V.int, e3, e4, e5, L4.fH, p1, p3, by rw [List.length_map]; have := hsz la (List.mem_of_getElem? p2); omega, ?_⟩
    have L5 := L4.push (x := (b : Int)) p1 p2
    obtain ⟨ab, lb, q1, q2, q3⟩ := L5.at_.at hb2
    have b5 : ∀ l ∈ insL ls2 a b, l.length ≤ 2 * i + 1 := insL_le b2
    refine ⟨f, as, b, a, ab, lb.map V.int, e3, e5, e4, L5.fH, q1, q3, by rw [List.length_map]; have := b5 lb (List.mem_of_getElem? q2); rw [sizeLine_eq]; omega, ?_⟩
    exact ⟨F3, _, L5.push (x := (a : Int)) q1 q2, l2.trans s3.le, fun l hl => by have := insL_le b5 l hl; omega, g3⟩
  · have ei : i = ds.length := by omega
    subst ei
    have hx : nth ds ds.length = none := by rw [nth_eq]; exact List.getElem?_eq_none (Nat.le_refl _)
    simp only [nxt, hx, stopAt_self] at J1
    rw [List.drop_length] at g2
    cases g2
    exact .inl ⟨J1, fin F2 H2 σ2 L2⟩
end
end Rf
/-! Rh4: enemies_of. -/
namespace Rf
open PySem PySem.Spec PyProof.Rows L2 PySem.W
section
variable {T : List Addr} {F0 H0 F H : Hp} {ρ : List Addr} {st : St}
theorem Rl.take1 {a : Addr} {o : HO} (r : Rl T F [] [] H) (ha : H a = some o) (fa : F a = none) (aT : a ∉ T) : Rl T (upd F a o) [] [] H := by
  refine ⟨fun b u e => ?_, fun b hb => ?_, r.tab, rfl, .nil, fun b z => absurd z (by simp), fun b z => absurd z (by simp), fun i b ob z => absurd z (by simp)⟩
  · by_cases h : b = a
    · rw [h, upd_same] at e
      cases e
      rw [h]; exact ha
    · rw [upd_ne h] at e
      exact r.sub b u e
  · have : b ≠ a := fun z => aT (by rw [← z]; exact hb)
    rw [upd_ne this]
    exact r.nT b hb
theorem Step.take1 {a : Addr} {o : HO} (s : Step T F0 [] H0 F [] H) (fa : F a = none) (h0 : H0 a = none) : Step T F0 [] H0 (upd F a o) [] H := by
  refine ⟨s.le.trans (Le.upd fa), fun b u e => ?_, s.grow, s.pres, s.dom⟩
  by_cases h : b = a
  · rw [h]; exact .inr (.inl h0)
  · rw [upd_ne h] at e
    exact s.new b u e
theorem take_all : ∀ (as : List Addr) (F : Hp), Step T F0 [] H0 F [] H → Rl T F [] [] H → as.Nodup → (∀ a ∈ as, H0 a = none ∧ F a = none ∧ a ∉ T ∧ ∃ o, H a = some o) → ∃ F', Step T F0 [] H0 F' [] H ∧ Rl T F' [] [] H ∧ (∀ a ∈ as, F' a = H a) ∧ (∀ b, b ∉ as → F' b = F b)
  | [], F, s, r, _, _ => ⟨F, s, r, fun a h => absurd h (by simp), fun _ _ => rfl⟩
  | a :: as, F, s, r, nd, h => by
    obtain ⟨h1, h2, h3, o, h4⟩ := h a (List.mem_cons_self ..)
    obtain ⟨na, nd'⟩ := List.nodup_cons.mp nd
    obtain ⟨F', s', r', k1, k2⟩ := take_all as (upd F a o) (s.take1 h2 h1) (r.take1 h4 h2 h3) nd' fun b hb => by
      obtain ⟨q1, q2, q3, q4⟩ := h b (List.mem_cons_of_mem _ hb)
      exact ⟨q1, by rw [upd_ne (fun z => na (by rw [← z]; exact hb))]; exact q2, q3, q4⟩
    refine ⟨F', s', r', fun b hb => ?_, fun b hb => ?_⟩
    · rcases List.mem_cons.mp hb with rfl | hb
      · rw [k2 b na, upd_same, h4]
      · exact k1 b hb
    · rw [k2 b (fun z => hb (List.mem_cons_of_mem _ z)), upd_ne (fun z => hb (by rw [z]; exact List.mem_cons_self ..))]
theorem rds_ints {F : Hp} : ∀ l : List Int, RDs F (l.map .int) (l.map V.int)
  | [] => rfl
  | i :: r => RDs.cons rfl (rds_ints r)
def lolD (l : List (List Int)) : D := .lst (l.map fun x => .lst (x.map .int))
theorem LolOk.freeze {σ : L2.St} {f : Addr} {as : List Addr} {ls : List (List Int)} (h : LolOk T F0 H0 F H σ f as ls) : ∃ F', Step T F0 [] H0 F' [] H ∧ Rl T F' [] [] H ∧ RD F' (lolD ls) (.ref f) := by
  have own : ∀ a ∈ as, H0 a = none ∧ F a = none ∧ a ∉ T ∧ ∃ o, H a = some o := fun a ha => by
    obtain ⟨o1, o2, o3⟩ := h.own a ha
    obtain ⟨k, hk⟩ := List.getElem?_of_mem ha
    obtain ⟨b, l, hb, _, hH⟩ := h.at_.at (List.getElem?_eq_some_iff.mp hk).1
    rw [hk] at hb
    cases hb
    exact ⟨o1, o2, o3, _, hH⟩
  obtain ⟨F1, s1, r1, k1, k2⟩ := take_all as F h.step h.rl h.nd own
  have f1 : F1 f = none := by rw [k2 f h.fA]; exact h.fF
  refine ⟨upd F1 f (.lst (as.map V.ref)), s1.take1 f1 h.f0, r1.take1 h.fH f1 h.fT, f, as.map V.ref, rfl, upd_same, ?_⟩
  have key : ∀ (ls : List (List Int)) (bs : List Addr), ls.length = bs.length → (∀ (k : Nat) (a : Addr) (l : List Int), bs[k]? = some a → ls[k]? = some l → a ∈ as ∧ H a = some (.lst (l.map V.int))) → RDs (upd F1 f (.lst (as.map V.ref))) (ls.map fun x => .lst (x.map .int)) (bs.map V.ref) := fun ls => by
    induction ls with
    | nil =>
      intro bs hl _
      cases bs with
      | nil => exact rfl
      | cons b bs => cases hl
    | cons l ls ih =>
      intro bs hl hk
      cases bs with
      | nil => cases hl
      | cons b bs =>
        obtain ⟨hm, hH⟩ := hk 0 b l rfl rfl
        refine RDs.cons ⟨b, l.map V.int, rfl, ?_, rds_ints l⟩ (ih bs (by simpa using hl) fun k a m h1 h2 => hk (k + 1) a m (by simpa using h1) (by simpa using h2))
        rw [upd_ne (fun z => h.fA (by rw [← z]; exact hm)), k1 b hm]
        exact hH
  exact key ls as h.at_.1 fun k a l h1 h2 => ⟨List.mem_of_getElem? h1, h.at_.2 k a l h1 h2⟩
end
def noC : Calls := ⟨fun _ _ => none, fun _ _ _ => none⟩
/-- what enemies_of answers; e3: its last statement -/
def enem (e3 : S) : List D → Option D
  | [.int (.ofNat n), e] => (match Nat.ble n 100000, walkD e with
    | true, some es => (match Nat.ble es.length 100000 with
      | true => (match goE n es (List.replicate n []) with
        | some l => (match ex noC e3 [.un, .un, .un, .d (lolD l), .un, .un, .un] [] with
          | some (.ret x, _, []) => some x
          | _ => none)
        | none => none)
      | false => none)
    | _, _ => none)
  | _ => none
def enN : List Str := ["n", "enemies", "_", "found", "i", "j", "one"]
def enC : Cc := ⟨false, 1, fun _ => true, enN, [], [], [], []⟩
def enB (d : Arguments) (b : List Stmt) (sc : Scope) : Option S := match b with
  | [.Assign [.Name a1 p1] (.ListComp (.List [] p2) [⟨.Name a2 p3, .Call (.Name a3 p4) [.Name a4 p5] [] p6, [], 0⟩] sc1 p7) p8,
     .For (.Tuple [.Name a5 p9, .Name a6 p10] k1 p11) (.Name a7 p12) [.Expr (.Call (.Attribute (.Subscript (.Name a8 p13) (.Name a9 p14) p15) a10 p16) [.Name a11 p17] [] p18) p19, .Expr (.Call (.Attribute (.Subscript (.Name a12 p20) (.Name a13 p21) p22) a14 p23) [.Name a15 p24] [] p25) p26] [] p27, s3] =>
    (match decide (a1 = "found") && decide (a2 = "_") && decide (a3 = "range") && decide (a4 = "n") && decide (a5 = "i") && decide (a6 = "j") && decide (a7 = "enemies") && decide (a8 = "found") && decide (a9 = "i") && decide (a10 = "append") && decide (a11 = "j") && decide (a12 = "found") && decide (a13 = "j") && decide (a14 = "append") && decide (a15 = "i"),
      (p16.endLine == p18.line) && (p23.endLine == p25.line) && decide (d.args.map (·.arg) = ([("n" : Str), ("enemies" : Str)] : List Str)) && fnB enN ["n", "enemies"] sc && isGl sc "range" && decide (slotR enC sc "n" = some 0) && decide (slotR enC sc "enemies" = some 1) && decide (slotR enC sc "found" = some 3) && decide (slotR enC sc "i" = some 4) && decide (slotR enC sc "j" = some 5) && decide (slotW enC sc "i" = some 4) && decide (slotW enC sc "j" = some 5) && decide (slotW (inC enC sc1) (relB sc1 sc) "_" = some 2) && decide (sc.names.lookup ("found" : Str) = some .local) && swapB sc (.ListComp (.List [] p2) [⟨.Name a2 p3, .Call (.Name a3 p4) [.Name a4 p5] [] p6, [], 0⟩] sc1 p7) "found" p1.line && blkB enN sc sc1 (ownOf enC sc1) && ((ownOf enC sc1).map (·.2)).contains 2 with
    | true, true => kS enC 100 sc s3
    | _, _ => none)
  | _ => none
section
variable {P : Program} {w : World} {K : PySem.W.Frag} {mg : Str → Option Value} {base : Heap} {T : List Addr}
theorem enem_inv {e3 : S} {ds : List D} {r : D} (h : enem e3 ds = some r) : ∃ (n : Nat) (e : D) (es : List D) (l : List (List Int)) (env' : Env), ds = [.int n, e] ∧ n ≤ 100000 ∧ walkD e = some es ∧ es.length ≤ 100000 ∧ goE n es (List.replicate n []) = some l ∧ ex noC e3 [.un, .un, .un, .d (lolD l), .un, .un, .un] [] = some (.ret r, env', []) := by
  unfold enem at h
  split at h
  · rename_i n e
    split at h
    · rename_i es hn hw
      split at h
      · rename_i hl
        split at h
        · rename_i l hg
          split at h
          · rename_i x env' hx
            cases h
            exact ⟨n, e, es, l, env', rfl, Nat.le_of_ble_eq_true hn, hw, Nat.le_of_ble_eq_true hl, hg, hx⟩
          · cases h
        · cases h
      · cases h
    · cases h
  · cases h
theorem small_of {n : Nat} (h : n ≤ 100000) : small (n : Int) = true := by
  unfold small
  rw [Nat.blt_eq]
  simp
  omega
def enBody (p1 p2 p3 p4 p5 p6 p7 p8 p9 p10 p11 p12 p13 p14 p15 p16 p17 p18 p19 p20 p21 p22 p23 p24 p25 p26 p27 : Pos) (k1 : Nat) (sc1 : Scope) (s3 : Stmt) : List Stmt :=
  [.Assign [.Name "found" p1] (.ListComp (.List [] p2) [⟨.Name "_" p3, .Call (.Name "range" p4) [.Name "n" p5] [] p6, [], 0⟩] sc1 p7) p8,
     .For (.Tuple [.Name "i" p9, .Name "j" p10] k1 p11) (.Name "enemies" p12) [.Expr (.Call (.Attribute (.Subscript (.Name "found" p13) (.Name "i" p14) p15) "append" p16) [.Name "j" p17] [] p18) p19, .Expr (.Call (.Attribute (.Subscript (.Name "found" p20) (.Name "j" p21) p22) "append" p23) [.Name "i" p24] [] p25) p26] [] p27, s3]
structure EnOk (a : Arguments) (sc sc1 : Scope) (p1 p2 p3 p4 p5 p6 p7 p16 p18 p23 p25 : Pos) (s3 : Stmt) (e3 : S) : Prop where
  l1 : (p16.endLine == p18.line) = true
  l2 : (p23.endLine == p25.line) = true
  ps : a.args.map (·.arg) = ([("n" : Str), ("enemies" : Str)] : List Str)
  S : fnB enN ["n", "enemies"] sc = true
  rg : isGl sc "range" = true
  h0 : slotR enC sc "n" = some 0
  h1 : slotR enC sc "enemies" = some 1
  h3 : slotR enC sc "found" = some 3
  h4 : slotR enC sc "i" = some 4
  h5 : slotR enC sc "j" = some 5
  w4 : slotW enC sc "i" = some 4
  w5 : slotW enC sc "j" = some 5
  w2 : slotW (inC enC sc1) (relB sc1 sc) "_" = some 2
  loc : sc.names.lookup ("found" : Str) = some .local
  sw : swapB sc (.ListComp (.List [] p2) [⟨.Name "_" p3, .Call (.Name "range" p4) [.Name "n" p5] [] p6, [], 0⟩] sc1 p7) "found" p1.line = true
  blk : blkB enN sc sc1 (ownOf enC sc1) = true
  own : ((ownOf enC sc1).map (·.2)).contains 2 = true
  e3 : kS enC 100 sc s3 = some e3
theorem enB_inv {a : Arguments} {b : List Stmt} {sc : Scope} {e3 : S} (hB : enB a b sc = some e3) : ∃ p1 p2 p3 p4 p5 p6 p7 p8 p9 p10 p11 p12 p13 p14 p15 p16 p17 p18 p19 p20 p21 p22 p23 p24 p25 p26 p27 k1 sc1 s3, b = enBody p1 p2 p3 p4 p5 p6 p7 p8 p9 p10 p11 p12 p13 p14 p15 p16 p17 p18 p19 p20 p21 p22 p23 p24 p25 p26 p27 k1 sc1 s3 ∧ EnOk a sc sc1 p1 p2 p3 p4 p5 p6 p7 p16 p18 p23 p25 s3 e3 := by
  unfold enB at hB
  split at hB
  · rename_i a1 p1 p2 a2 p3 a3 p4 a4 p5 p6 sc1 p7 p8 a5 p9 a6 p10 k1 p11 a7 p12 a8 p13 a9 p14 p15 a10 p16 a11 p17 p18 p19 a12 p20 a13 p21 p22 a14 p23 a15 p24 p25 p26 p27 s3
    split at hB
    · rename_i hn hc
      simp only [Bool.and_eq_true, decide_eq_true_eq] at hn hc
      obtain ⟨⟨⟨⟨⟨⟨⟨⟨⟨⟨⟨⟨⟨⟨rfl, rfl⟩, rfl⟩, rfl⟩, rfl⟩, rfl⟩, rfl⟩, rfl⟩, rfl⟩, rfl⟩, rfl⟩, rfl⟩, rfl⟩, rfl⟩, rfl⟩ := hn
      obtain ⟨⟨⟨⟨⟨⟨⟨⟨⟨⟨⟨⟨⟨⟨⟨⟨hl1, hl2⟩, hps⟩, hS⟩, hrg⟩, h0⟩, h1⟩, h3⟩, h4⟩, h5⟩, w4⟩, w5⟩, w2⟩, hloc⟩, hsw⟩, hblk⟩, hown⟩ := hc
      exact ⟨p1, p2, p3, p4, p5, p6, p7, p8, p9, p10, p11, p12, p13, p14, p15, p16, p17, p18, p19, p20, p21, p22, p23, p24, p25, p26, p27, k1, sc1, s3, rfl, ⟨hl1, hl2, hps, hS, hrg, h0, h1, h3, h4, h5, w4, w5, w2, hloc, hsw, hblk, hown, hB⟩⟩
    · cases hB
  · cases hB
theorem en_ss {X : Cx} {a : Arguments} {sc sc1 : Scope} {d k1 : Nat} {p1 p2 p3 p4 p5 p6 p7 p8 p9 p10 p11 p12 p13 p14 p15 p16 p17 p18 p19 p20 p21 p22 p23 p24 p25 p26 p27 : Pos} {s3 : Stmt} {e3 : S} (G : Gd X T enC sc noC d) (hp : PassesOwn (model X.prog X.w) X.A X.env X.xe) (h : EnOk a sc sc1 p1 p2 p3 p4 p5 p6 p7 p16 p18 p23 p25 s3 e3) :
    PSs X (enBody p1 p2 p3 p4 p5 p6 p7 p8 p9 p10 p11 p12 p13 p14 p15 p16 p17 p18 p19 p20 p21 p22 p23 p24 p25 p26 p27 k1 sc1 s3)
      (tSeq (tAsg (tLc (tIv T (evF noC (.rng1 (.var 0)))) (tTg T (.nm 2)) (tTs T (tests (evT noC []))) (tEv T (ev noC (.lst true []))) ((ownOf enC sc1).map (·.2))) (gName 3)) (tSeq (tFor (tIv T (evF noC (.walk (.var 1)))) (tTg T (.tp [.nm 4, .nm 5])) (tSeq (tPush 3 4 5) (tSeq (tPush 3 5 4) tNext))) (tSeq (tSx T (ex noC e3)) tNext))) := by
  obtain ⟨n0, v0, k0⟩ := G.slotR h.h0
  obtain ⟨n1, v1, k1'⟩ := G.slotR h.h1
  obtain ⟨n3, v3, k3⟩ := G.slotR h.h3
  obtain ⟨n4, v4, k4⟩ := G.slotR h.h4
  obtain ⟨n5, v5, k5⟩ := G.slotR h.h5
  obtain ⟨m4, x4, y4⟩ := G.slotW h.w4
  obtain ⟨m5, x5, y5⟩ := G.slotW h.w5
  have ok := blk_ok h.blk
  have ok' : BlkOk X.N X.env.scope sc1 (ownOf enC sc1) := by
    have := ok
    rw [← G.scp] at this
    have e : enN = X.N := G.N
    rw [e] at this
    exact this
  have hsw := G.swap (.ListComp (.List [] p2) [⟨.Name "_" p3, .Call (.Name "range" p4) [.Name "n" p5] [] p6, [], 0⟩] sc1 p7) "found" p1 p8.line
  rw [h.sw] at hsw
  have tg2 : cTg (inC enC sc1) (relB sc1 sc) 8 (.Name "_" p3) = some (.nm 2) := by
    simp only [cTg, h.w2]
    rfl
  refine pss_cons (ps_setLc G.calm G.nd n3 (by rw [G.scp]; exact h.loc) hsw (pi_rng1 (G.gl h.rg) (G.blt _ (by decide) rfl) rfl (pv_var n0 v0 k0)) ok' (fun s H A cs fp => ((G.blk ok.kind s H A cs fp).tg 8 tg2).2) (fun s H A cs fp => pts_0) (fun s H A cs fp => (snd 2).E (G.blk ok.kind s H A cs fp) rfl) (fun x => rfl)) ?_
  refine pss_cons (ps_for hp G.calm (pi_walk (pv_var n1 v1 k1')) (pg_tp G.calm rfl rfl (pgs_1 rfl (pg_nm G.nd m4 x4 y4) (pgs_1 rfl (pg_nm G.nd m5 x5 y5) pgs_0))) (pss_cons (ps_push h.l1 n3 v3 k3 n4 v4 k4 n5 v5 k5) (pss_cons (ps_push h.l2 n3 v3 k3 n5 v5 k5 n4 v4 k4) pss_nil)) (fun x => rfl)) ?_
  exact pss_cons ((sndS 100).S G hp h.e3) pss_nil
theorem re_slot3 {F : Hp} {f : Addr} {x : Rf.D} : ∀ {σ : L2.St}, σ.length = 7 → σ[3]? = some (some (.ref f)) → RD F x (.ref f) → RE F [] [.un, .un, .un, .d x, .un, .un, .un] σ
  | [a, b, c, d, e, g, h], _, hs, hd => by
    have : d = some (.ref f) := by simpa using hs
    subst this
    exact ⟨.inl rfl, .inl rfl, .inl rfl, .inr ⟨.ref f, rfl, hd⟩, .inl rfl, .inl rfl, .inl rfl, trivial⟩
theorem en_sem {own : List Nat} {e3 : S} {D : Ends} {σ : L2.St} {H F : Hp} {n : Nat} {e rr : Rf.D} {es : List Rf.D} {l : List (List Int)} {env' : Env} (ho : own.contains 2 = true) (r : Rl T F [] [] H) (hE : RE F [] [.d (.int n), .d e, .un, .un, .un, .un, .un] σ) (hn : n ≤ 100000) (hw : walkD e = some es) (hl : es.length ≤ 100000) (hg : goE n es (List.replicate n []) = some l)
    (hx : ex noC e3 [.un, .un, .un, .d (lolD l), .un, .un, .un] [] = some (.ret rr, env', [])) (fin : ∀ F' ρ' H' v, Step T F [] H F' ρ' H' → Rl T F' ρ' [] H' → RD F' rr v → D.rt v H') :
    tSeq (tAsg (tLc (tIv T (evF noC (.rng1 (.var 0)))) (tTg T (.nm 2)) (tTs T (tests (evT noC []))) (tEv T (ev noC (.lst true []))) own) (gName 3)) (tSeq (tFor (tIv T (evF noC (.walk (.var 1)))) (tTg T (.tp [.nm 4, .nm 5])) (tSeq (tPush 3 4 5) (tSeq (tPush 3 5 4) tNext))) (tSeq (tSx T (ex noC e3)) tNext)) D σ H := by
  have lr : (rngUp 0 n).length = n := by
    have := (rg_rds (F := F) n 0).length
    rw [← this]
    simp
  have h1 : evF noC (.rng1 (.var 0)) [.d (.int n), .d e, .un, .un, .un, .un, .un] [] = some (.seq (rngUp 0 n), []) := by
    have hs := small_of hn
    have hb : Nat.ble (n : Int).toNat MAXL = true := Nat.ble_eq_true_of_le hn
    simp only [evF, ev, getE, hs, hb, Bool.and_true]
    rfl
  unfold tSeq tAsg
  refine lol_step ho r hE h1 (by rw [lr, sizeLine_eq]; omega) fun F' H' f as s r' hf hlen nd hfa h0 fF fT hown => ?_
  rw [lr] at hlen
  have L1 : LolOk T F H F' H' (σ.set 3 (some (.ref f))) f as (List.replicate n []) := by
    refine ⟨s, r', by rw [List.length_set]; exact re_len hE, ?_, hf, fF, hfa, fT, h0, fun a ha => (hown a ha).2, nd, by rw [List.length_replicate, hlen], fun k a m hk hm => ?_⟩
    · have : 3 < σ.length := by rw [re_len hE]; show 3 < 7; decide
      simp [this]
    · have : m = [] := by
        rw [List.getElem?_replicate] at hm
        split at hm
        · exact (Option.some.inj hm).symm
        · cases hm
      rw [this]
      exact (hown a (List.mem_of_getElem? hk)).1
  refine lol_for L1 (env := [.d (.int n), .d e, .un, .un, .un, .un, .un]) ((hE.step s).unset (i := 3)) (ds := es) ?_ hl (fun m hm => by rw [List.eq_of_mem_replicate hm]; rfl) (by rw [hlen]; exact hg) fun F2 H2 σ2 L2 => ?_
  · simp only [evF, ev, getE, walkV, hw]
  · obtain ⟨F3, s3, r3, hd⟩ := L2.freeze
    exact ⟨F3, [], _, [], .ret rr, env', [], r3, re_slot3 L2.len L2.slot hd, hx, fun F4 ρ4 H4 s4 r4 v hv => fin F4 ρ4 H4 v (s3.trans s4) r4 hv⟩
theorem ok_enem {x : Str} {a : Arguments} {body : List Stmt} {scope : Scope} {e3 : S} (D : DefT P w K mg base T x a body scope) (hpl : plainA a = true) (hB : enB a body scope = some e3) (blt : ∀ x ∈ blts, mg x = none) : CallO P w K mg base 4 T x (runN (enem e3)) := by
  obtain ⟨fa, fd, oc, od, kV, doc, pm, an, c, Pt, ct, osl, rfl, lk, hcd, TB, hP, hm, hk⟩ := D.ex
  obtain ⟨p1, p2, p3, p4, p5, p6, p7, p8, p9, p10, p11, p12, p13, p14, p15, p16, p17, p18, p19, p20, p21, p22, p23, p24, p25, p26, p27, k1, sc1, s3, hb, ok⟩ := enB_inv hB
  have SF := fnB_ok ok.S
  have hps := ok.ps
  have ndp : (a.args.map (·.arg)).Nodup := by rw [hps]; decide
  have len : ∀ vs H Q E, spG T (runN (enem e3)) vs H Q E → vs.length = ([("n" : Str), ("enemies" : Str)] : List Str).length := fun vs H Q E h => by
    obtain ⟨F, ρ, st, ws, x', st', r, hw, e, fin⟩ := h
    unfold runN at e
    split at e
    · split at e
      · rename_i ds hd
        split at e
        · rename_i y hy
          obtain ⟨n, e1, es, l, env', rfl, _⟩ := enem_inv hy
          rw [hw.length, dsOf_inv hd]
          rfl
        · cases e
      · cases e
    · cases e
  refine ⟨fa, PySem.W.fnOf x x a body scope .none kV doc pm an (.ref c) ct, [("n" : Str), ("enemies" : Str)], hm, hk, .all fun us hl => ?_, ?_⟩
  · rw [← hps]
    exact bind_plain (fd := PySem.W.fnOf x x a body scope .none kV doc pm an (.ref c) ct) hpl rfl ndp (by rw [hl, ← hps, List.length_map])
  · refine fn_of (N := enN) lk hcd SF len fun A outer s H vs Q E hr hsp => ⟨_, PSs.nox (by rw [hb]; exact en_ss (T := T) (d := 0) (k1 := k1) ⟨rfl, SF.kind, rfl, rfl, SF.nd, hr, rfl, fun _ _ _ => rfl, fun x hx _ => blt x hx, fun h => (by cases h), fun h => (by cases h), fun x k h => (by cases h), fun _ => ⟨c, Pt, TB, rfl, hP⟩⟩ PassesOwn.never ok), ?_⟩
    obtain ⟨F, ρ, st, ws, x', st', r, hw, e, fin⟩ := hsp
    unfold runN at e
    split at e
    · split at e
      · rename_i ds hd
        split at e
        · rename_i y hy
          obtain ⟨n, e1, es, l, env', rfl, q1, q2, q3, q4, q5⟩ := enem_inv hy
          cases e
          have e0 := nil_of r
          subst e0
          have e5 := dsOf_inv hd
          subst e5
          have hE : RE F [] [.d (.int n), .d e1, .un, .un, .un, .un, .un] (L2.start enN vs) := by
            have hl : vs.length = 2 := hw.length
            unfold L2.start
            rw [show enN.length - vs.length = 5 by rw [hl]; rfl]
            exact re_start (N := enN) 5 hw
          exact en_sem ok.own r hE q1 q2 q3 q4 q5 fun F' ρ' H' v s' r' hv => fin F' ρ' H' v s' r' hv
        · cases e
      · cases e
    · cases e
end
end Rf
/-! Rh5: the hand-proved defs of a law's program. -/
namespace Rf
open PySem PySem.Spec PyProof.Rows L2 PySem.W
def natsB : List Fn → Nat → List Nat
  | [], _ => []
  | f :: r, i => (match f.nat with
    | some _ => i :: natsB r (i + 1)
    | none => natsB r (i + 1))
theorem natsB_mem : ∀ {fns : List Fn} {i : Nat} {f : Fn} {g : List D → Option D} (k : Nat), nth fns i = some f → f.nat = some g → k + i ∈ natsB fns k
  | [], i, f, g, k, h, _ => by cases h
  | a :: r, 0, f, g, k, h, hg => by
    cases h
    unfold natsB
    rw [hg]
    exact List.mem_cons_self ..
  | a :: r, i + 1, f, g, k, h, hg => by
    have := natsB_mem (fns := r) (i := i) (k + 1) h hg
    have e : k + 1 + i = k + (i + 1) := by omega
    rw [e] at this
    unfold natsB
    split
    · exact List.mem_cons_of_mem _ this
    · exact this
section
variable {P : Program} {w : World} {K : PySem.W.Frag} {mg : Str → Option Value} {base : Heap} {T : List Addr}
theorem ok_none {x : Str} {a : Arguments} {body : List Stmt} {scope : Scope} (D : DefT P w K mg base T x a body scope) (hpl : plainA a = true) (nd : (a.args.map (·.arg)).Nodup) : CallO P w K mg base 4 T x (runN fun _ => none) := by
  obtain ⟨fa, fd, oc, od, kV, doc, pm, an, c, Pt, ct, osl, rfl, lk, hcd, TB, hP, hm, hkp⟩ := D.ex
  have e : runN (fun _ => none) = noRun := by
    funext ws st
    unfold runN noRun
    cases st with
    | nil => cases dsOf ws <;> rfl
    | cons _ _ => rfl
  rw [e]
  exact ⟨fa, PySem.W.fnOf x x a body scope .none kV doc pm an (.ref c) ct, a.args.map (·.arg), hm, hkp, .all fun us hl => bind_plain (fd := PySem.W.fnOf x x a body scope .none kV doc pm an (.ref c) ct) hpl rfl nd (by rw [hl, List.length_map]), no_fn⟩
end
theorem hand_ok {names : List Str} {fns : List Fn} {fn : List He.DefD} {vs : List (Str × Option Value)} {iE iL : Nat} {e3 : S} (hn : fn.map (·.name) = names) (hq : (fn.all fun d => decide (d.qual = d.name) && plainA d.params) = true) (hv1 : ∀ x ∈ blts, (x, none) ∈ vs) (hN : natsB fns 0 = [iE, iL])
    (fE : nth fns iE = some ⟨2, 0, [], some (enem e3)⟩) (fL : nth fns iL = some ⟨1, 0, [], some fun _ => none⟩) (bE : (fn[iE]?).bind (fun d => enB d.params d.body d.scope) = some e3) (bL : (fn[iL]?).map (fun d => decide ((d.params.args.map (·.arg)).Nodup)) = some true) : HandOk names fns fn vs := by
  intro P w K mg base T DT hv x i f g hx hf hnat
  obtain ⟨d, hd, rfl⟩ := names_at hn hx
  have hqd := List.all_eq_true.mp hq d (List.mem_of_getElem? hd)
  rw [Bool.and_eq_true] at hqd
  have D := DT i d hd
  have hm := natsB_mem 0 hf hnat
  rw [hN, Nat.zero_add] at hm
  have hm : i = iE ∨ i = iL := by simpa using hm
  rcases hm with rfl | rfl
  · rw [fE] at hf
    cases hf
    cases hnat
    rw [hd] at bE
    exact ok_enem D hqd.2 bE fun x hx => hv _ (hv1 x hx)
  · rw [fL] at hf
    cases hf
    cases hnat
    rw [hd] at bL
    exact ok_none D hqd.2 (of_decide_eq_true (Option.some.inj bL))
theorem isT_ok {o : Option D} (h : (match o with | some (.bl true) => true | _ => false) = true) : o = some (.bl true) := by
  split at h
  · rfl
  · cases h
end Rf
namespace T
open Rf
def e3 : S := .ret (.pur false false (.comp (.prim .sorted false [.var 6]) [6] (.nm 6) (.walk (.var 3)) []))
def f0 : Fn := ⟨3, 10, [.asg (.tp [.nm 3, .nm 4, .nm 5, .nm 6, .nm 7, .nm 8, .nm 8]) (.var 0), .asg (.nm 9) (.bin .sub false (.var 2) (.var 1)), .ret (.tup false [.bin .add false (.bin .add false (.var 3) (.bin .mul false (.var 4) (.var 1))) (.bin .mul false (.var 6) (.var 9)), .bin .add false (.bin .add false (.var 3) (.bin .mul false (.var 5) (.var 1))) (.bin .mul false (.var 7) (.var 9))])], none⟩
def f1 : Fn := ⟨4, 8, [.ifs (.or_ (.cmp .ne (.prim .len false [.var 3]) (.var 2)) (.not_ (.tru (.pur true false (.all_ (.cmp .isin (.var 6) (.lit (.str [99, 119]))) [6] (.nm 6) (.walk (.var 3)) []))))) [.ret (.lit (.bl false))] [], .ifs (.not_ (.tru (.pur true false (.all_ (.or_ (.cmp .eq (.var 6) (.lit (.str [99]))) (.cmp .isin (.var 7) (.var 1))) [7, 6] (.tp [.nm 7, .nm 6]) (.enum (.var 3)) [])))) [.ret (.lit (.bl false))] [], .asg (.tp [.nm 4, .nm 5]) (.call 0 [.var 0, .meth .count (.var 3) (.lit (.str [119])), .var 2]), .ret (.and_ (.cmp .le (.ix (.var 0) (.lit (.int 5))) (.var 4)) (.cmp .le (.var 5) (.ix (.var 0) (.lit (.int 6)))))], none⟩
def f2 : Fn := ⟨3, 9, [.asg (.nm 3) (.pur false false (.comp (.var 8) [8] (.nm 8) (.walk (.var 1)) [.cmp .lt (.var 8) (.var 2)])), .for_ (.nm 4) (.rng1 (.bin .add false (.prim .len false [.var 3]) (.lit (.int 1)))) [.asg (.tp [.nm 5, .nm 6]) (.call 0 [.var 0, .var 4, .var 2]), .ifs (.and_ (.cmp .le (.ix (.var 0) (.lit (.int 5))) (.var 5)) (.cmp .le (.var 6) (.ix (.var 0) (.lit (.int 6))))) [.asg (.nm 7) (.slc false (.var 3) (some (.bin .sub false (.prim .len false [.var 3]) (.var 4))) none), .ret (.meth .join (.lit (.str [])) (.pur false false (.comp (.ite (.cmp .isin (.var 8) (.var 7)) (.lit (.str [119])) (.lit (.str [99]))) [8] (.nm 8) (.rng1 (.var 2)) [])))] []], .ret (.lit .non)], none⟩
def f3 : Fn := ⟨3, 12, [.asg (.nm 3) (.prim .len false [.pur false false (.comp (.var 7) [7] (.nm 7) (.walk (.var 1)) [.cmp .lt (.var 7) (.var 2)])]), .asg (.nm 4) (.pur false false (.comp (.call 0 [.var 0, .var 8, .var 2]) [8] (.nm 8) (.rng1 (.bin .add false (.var 3) (.lit (.int 1)))) [])), .for_ (.nm 5) (.rng2 (.neg (.lit (.int 1))) (.bin .add false (.var 3) (.lit (.int 1)))) [.asg (.nm 6) (.pur true false (.all_ (.cmp .lt (.var 9) (.ix (.var 0) (.lit (.int 5)))) [9, 10] (.tp [.nm 9, .nm 10]) (.walk (.slc false (.var 4) none (some (.bin .add false (.var 5) (.lit (.int 1)))))) [])), .ifs (.and_ (.tru (.var 6)) (.tru (.pur true false (.all_ (.cmp .gt (.var 11) (.ix (.var 0) (.lit (.int 6)))) [10, 11] (.tp [.nm 10, .nm 11]) (.walk (.slc false (.var 4) (some (.bin .add false (.var 5) (.lit (.int 1)))) none)) [])))) [.ret (.var 5)] []], .ret (.lit .non)], none⟩
def f4 : Fn := ⟨3, 3, [.ret (.ite (.cmp .eq (.var 2) (.lit (.str [110]))) (.bin .add false (.var 1) (.var 0)) (.bin .fdiv false (.bin .add false (.var 1) (.var 0)) (.lit (.int 2))))], none⟩
def f5 : Fn := ⟨3, 10, [.asg (.nm 7) (.dct true []), .for_ (.nm 3) (.rng1 (.bin .add false (.bin .sub false (.var 1) (.var 0)) (.lit (.int 1)))) [.asg (.nm 4) (.lst true []), .for_ (.nm 5) (.rng2 (.var 0) (.bin .add false (.var 1) (.lit (.int 1)))) [.asg (.nm 6) (.pur false false (.comp (.call 4 [.var 2, .var 5, .var 8]) [8] (.nm 8) (.walk (.lit (.str [110, 112]))) [])), .ifs (.and_ (.cmp .notin (.var 5) (.var 7)) (.tru (.pur true false (.all_ (.or_ (.cmp .isin (.var 9) (.var 7)) (.not_ (.tru (.chain .le .le (.var 0) (.var 9) (.var 1))))) [9] (.nm 9) (.walk (.var 6)) [])))) [.ex (.push 4 (.var 5))] []], .for_ (.nm 5) (.walk (.var 4)) [.setI 7 (.var 5) (.var 3)]], .ret (.prim .tuple false [.pur true false (.comp (.dget (.var 7) (.var 5) (.neg (.lit (.int 1)))) [5] (.nm 5) (.rng2 (.var 0) (.bin .add false (.var 1) (.lit (.int 1)))) [])])], none⟩
def f6 : Fn := ⟨4, 10, [.ifs (.or_ (.cmp .ne (.prim .len false [.var 3]) (.bin .add false (.bin .sub false (.var 1) (.var 0)) (.lit (.int 1)))) (.not_ (.tru (.pur true false (.all_ (.cmp .ge (.var 7) (.neg (.lit (.int 1)))) [7] (.nm 7) (.walk (.var 3)) []))))) [.ret (.lit (.bl false))] [], .for_ (.tp [.nm 4, .nm 7]) (.enum (.var 3)) [.asg (.nm 5) (.pur false false (.comp (.call 4 [.var 2, .bin .add false (.var 0) (.var 4), .var 8]) [8] (.nm 8) (.walk (.lit (.str [110, 112]))) [])), .asg (.nm 6) (.pur false false (.comp (.ix (.var 3) (.bin .sub false (.var 9) (.var 0))) [9] (.nm 9) (.walk (.var 5)) [.chain .le .le (.var 0) (.var 9) (.var 1)])), .ifs (.and_ (.cmp .eq (.var 7) (.neg (.lit (.int 1)))) (.cmp .notin (.neg (.lit (.int 1))) (.var 6))) [.ret (.lit (.bl false))] [], .ifs (.and_ (.cmp .ge (.var 7) (.lit (.int 0))) (.not_ (.tru (.pur true false (.all_ (.chain .le .lt (.lit (.int 0)) (.var 9) (.var 7)) [9] (.nm 9) (.walk (.var 6)) []))))) [.ret (.lit (.bl false))] []], .ret (.lit (.bl true))], none⟩
def f7 : Fn := ⟨4, 5, [.asg (.nm 4) (.ix (.call 5 [.var 0, .var 1, .var 2]) (.bin .sub false (.var 3) (.var 0))), .ret (.ite (.cmp .lt (.var 4) (.lit (.int 0))) (.lit .non) (.var 4))], none⟩
def f8 : Fn := ⟨5, 5, [.ret (.and_ (.chain .le .le (.var 0) (.var 3) (.var 1)) (.or_ (.cmp .lt (.ix (.var 2) (.bin .sub false (.var 3) (.var 0))) (.lit (.int 0))) (.cmp .ge (.ix (.var 2) (.bin .sub false (.var 3) (.var 0))) (.var 4))))], none⟩
def f9 : Fn := ⟨5, 9, [.asg (.nm 5) (.call 5 [.var 0, .var 1, .var 2]), .ifs (.not_ (.tru (.call 8 [.var 0, .var 1, .var 5, .var 3, .var 4]))) [.ret (.lit .non)] [], .asg (.nm 6) (.lit (.str [])), .for_ (.nm 7) (.rng3 (.bin .sub false (.var 4) (.lit (.int 1))) (.neg (.lit (.int 1))) (.neg (.lit (.int 1)))) [.asg (.nm 8) (.ite (.tru (.call 8 [.var 0, .var 1, .var 5, .call 4 [.var 2, .var 3, .lit (.str [110])], .var 7])) (.lit (.str [110])) (.lit (.str [112]))), .aug .add 6 (.var 8), .asg (.nm 3) (.call 4 [.var 2, .var 3, .var 8])], .ret (.var 6)], none⟩
def f10 : Fn := ⟨4, 9, [.asg (.nm 4) (.call 5 [.var 0, .var 1, .var 2]), .ifs (.cmp .ge (.ix (.var 4) (.bin .sub false (.var 3) (.var 0))) (.lit (.int 0))) [.ret (.lit .non)] [], .asg (.nm 5) (.lit (.str [])), .asg (.nm 6) (.dct true []), .while_ (.cmp .notin (.var 3) (.var 6)) [.setI 6 (.var 3) (.prim .len false [.var 5]), .asg (.nm 7) (.call 4 [.var 2, .var 3, .lit (.str [110])]), .asg (.nm 8) (.ite (.and_ (.chain .le .le (.var 0) (.var 7) (.var 1)) (.cmp .lt (.ix (.var 4) (.bin .sub false (.var 7) (.var 0))) (.lit (.int 0)))) (.lit (.str [110])) (.lit (.str [112]))), .aug .add 5 (.var 8), .asg (.nm 3) (.call 4 [.var 2, .var 3, .var 8])], .ret (.tup false [.slc false (.var 5) none (some (.ix (.var 6) (.var 3))), .slc false (.var 5) (some (.ix (.var 6) (.var 3))) none])], none⟩
def f11 : Fn := ⟨1, 5, [.for_ (.nm 1) (.walk (.prim .sorted false [.pur false false (.comp (.ix (.var 2) (.lit (.int 1))) [2] (.nm 2) (.walk (.var 0)) [])])) [.ifs (.cmp .gt (.prim .sum false [.pur false false (.comp (.var 3) [3, 4] (.tp [.nm 3, .nm 4]) (.walk (.var 0)) [.cmp .le (.var 4) (.var 1)])]) (.var 1)) [.ret (.var 1)] []], .ret (.lit .non)], none⟩
def f12 : Fn := ⟨1, 8, [.ifs (.cmp .isnot (.call 11 [.var 0]) (.lit .non)) [.ret (.lit .non)] [], .asg (.nm 1) (.tup false []), .asg (.nm 2) (.lit (.int 0)), .asg (.nm 3) (.ofIt false false (.rng1 (.prim .len false [.var 0]))), .while_ (.tru (.var 3)) [.for_ (.nm 4) (.walk (.var 3)) [.asg (.nm 5) (.pur false false (.comp (.var 7) [7] (.nm 7) (.walk (.var 3)) [.cmp .ne (.var 7) (.var 4)])), .asg (.nm 6) (.bin .add false (.var 2) (.ix (.ix (.var 0) (.var 4)) (.lit (.int 0)))), .ifs (.and_ (.cmp .le (.var 6) (.ix (.ix (.var 0) (.var 4)) (.lit (.int 1)))) (.cmp .is (.call 11 [.pur false false (.comp (.tup false [.ix (.ix (.var 0) (.var 7)) (.lit (.int 0)), .bin .sub false (.ix (.ix (.var 0) (.var 7)) (.lit (.int 1))) (.var 6)]) [7] (.nm 7) (.walk (.var 5)) [])]) (.lit .non))) [.brk] []], .asg (.nm 1) (.bin .add false (.var 1) (.tup false [.var 4])), .asg (.nm 2) (.var 6), .asg (.nm 3) (.var 5)], .ret (.var 1)], none⟩
def f13 : Fn := ⟨3, 4, [.asg (.nm 3) (.prim .list true [.var 0]), .setI 3 (.var 2) (.tup false [.ix (.ix (.var 0) (.var 2)) (.lit (.int 0)), .prim .min2 false [.ix (.ix (.var 0) (.var 2)) (.lit (.int 1)), .bin .sub false (.ix (.ix (.var 0) (.var 1)) (.lit (.int 1))) (.ix (.ix (.var 0) (.var 1)) (.lit (.int 0)))]]), .ret (.call 11 [.var 3])], none⟩
def f14 : Fn := ⟨3, 3, [.ret (.and_ (.cmp .is (.call 11 [.var 0]) (.lit .non)) (.cmp .isnot (.call 13 [.var 0, .var 1, .var 2]) (.lit .non)))], none⟩
def f15 : Fn := ⟨1, 4, [.asg (.nm 1) (.lst true []), .for_ (.nm 2) (.rng1 (.prim .len false [.var 0])) [.ex (.extend 1 (.pur false false (.comp (.tup false [.var 2, .var 3]) [3] (.nm 3) (.rng1 (.prim .len false [.var 0])) [.and_ (.cmp .ne (.var 2) (.var 3)) (.tru (.call 14 [.var 0, .var 2, .var 3]))])))], .ret (.prim .tuple false [.var 1])], none⟩
def f16 : Fn := ⟨2, 3, [.ifs (.cmp .isnot (.call 11 [.var 0]) (.lit .non)) [.ret (.lit .non)] [], .ret (.prim .len false [.pur false false (.comp (.var 2) [2] (.nm 2) (.rng1 (.prim .len false [.var 0])) [.and_ (.cmp .ne (.var 2) (.var 1)) (.tru (.call 14 [.var 0, .var 2, .var 1]))])])], none⟩
def f17 : Fn := ⟨5, 9, [.ifs (.cmp .ne (.prim .len false [.var 4]) (.prim .len false [.var 1])) [.ret (.lit (.bl false))] [], .for_ (.tp [.tp [.nm 5, .nm 6, .nm 7], .nm 8]) (.zip (.var 1) (.var 4)) [.asg (.nm 0) (.bin .add false (.bin .sub false (.var 0) (.var 5)) (.var 8)), .ifs (.or_ (.not_ (.chain .le .le (.var 6) (.var 8) (.var 7))) (.not_ (.chain .le .le (.var 2) (.var 0) (.var 3)))) [.ret (.lit (.bl false))] []], .ret (.lit (.bl true))], none⟩
def f18 : Fn := ⟨5, 12, [.ifs (.or_ (.cmp .ne (.prim .len false [.var 4]) (.lit (.int 3))) (.or_ (.not_ (.chain3 .le .lt .le (.lit (.int 0)) (.ix (.var 4) (.lit (.int 0))) (.ix (.var 4) (.lit (.int 1))) (.prim .len false [.var 1]))) (.cmp .notin (.ix (.var 4) (.lit (.int 2))) (.tup false [.lit (.int 0), .lit (.int 1)])))) [.ret (.lit (.bl false))] [], .asg (.tp [.nm 5, .nm 6, .nm 7]) (.var 4), .asg (.nm 8) (.ite (.cmp .eq (.var 5) (.lit (.int 0))) (.var 0) (.ix (.tup false [.var 3, .var 2]) (.var 7))), .for_ (.tp [.nm 9, .nm 10, .nm 11]) (.walk (.slc false (.var 1) (some (.var 5)) (some (.var 6)))) [.asg (.nm 8) (.bin .add false (.bin .sub false (.var 8) (.var 9)) (.ix (.tup false [.var 11, .var 10]) (.var 7)))], .ret (.ite (.cmp .eq (.var 7) (.lit (.int 1))) (.cmp .gt (.var 8) (.var 3)) (.cmp .lt (.var 8) (.var 2)))], none⟩
def f19 : Fn := ⟨4, 7, [.for_ (.nm 4) (.rng1 (.prim .len false [.var 1])) [.for_ (.nm 5) (.rng2 (.bin .add false (.var 4) (.lit (.int 1))) (.bin .add false (.prim .len false [.var 1]) (.lit (.int 1)))) [.for_ (.nm 6) (.walk (.tup false [.lit (.int 0), .lit (.int 1)])) [.ifs (.tru (.call 18 [.var 0, .var 1, .var 2, .var 3, .tup false [.var 4, .var 5, .var 6]])) [.ret (.tup false [.var 4, .var 5, .var 6])] []]]], .ret (.lit .non)], none⟩
def f20 : Fn := ⟨3, 8, [.asg (.nm 3) (.lst true [.tup false [.var 1, .var 2]]), .for_ (.tp [.nm 4, .nm 5, .nm 6]) (.walk (.slr false (.var 0) (some (.lit (.int 0))))) [.asg (.nm 7) (.ix (.var 3) (.neg (.lit (.int 1)))), .ex (.push 3 (.tup false [.prim .max2 false [.var 1, .bin .sub false (.bin .add false (.ix (.var 7) (.lit (.int 0))) (.var 4)) (.var 6)], .prim .min2 false [.var 2, .bin .sub false (.bin .add false (.ix (.var 7) (.lit (.int 1))) (.var 4)) (.var 5)]]))], .ret (.slr false (.var 3) none)], none⟩
def f21 : Fn := ⟨4, 10, [.ifs (.cmp .isnot (.call 19 [.var 0, .var 1, .var 2, .var 3]) (.lit .non)) [.ret (.lit .non)] [], .asg (.nm 4) (.tup false []), .for_ (.tp [.tp [.nm 5, .nm 6, .nm 7], .nm 8]) (.zip (.var 1) (.call 20 [.var 1, .var 2, .var 3])) [.asg (.nm 9) (.prim .max2 false [.var 6, .bin .add false (.bin .sub false (.ix (.var 8) (.lit (.int 0))) (.var 0)) (.var 5)]), .asg (.nm 0) (.bin .add false (.bin .sub false (.var 0) (.var 5)) (.var 9)), .asg (.nm 4) (.bin .add false (.var 4) (.tup false [.var 9]))], .ret (.var 4)], none⟩
def f22 : Fn := ⟨1, 2, [.ret (.pur true false (.all_ (.cmp .lt (.ix (.var 0) (.var 1)) (.ix (.var 0) (.bin .add false (.var 1) (.lit (.int 1))))) [1] (.nm 1) (.rng1 (.bin .sub false (.prim .len false [.var 0]) (.lit (.int 1)))) []))], none⟩
def f23 : Fn := ⟨3, 3, [.ret (.prim .sum false [.slc false (.var 1) (some (.prim .max2 false [.lit (.int 0), .bin .add false (.bin .sub false (.var 2) (.var 0)) (.lit (.int 1))])) (some (.bin .add false (.var 2) (.lit (.int 1))))])], none⟩
def f24 : Fn := ⟨2, 6, [.asg (.nm 2) (.bin .sub false (.prim .len false [.var 0]) (.var 1)), .asg (.nm 3) (.bin .mul true (.lst false [.lit (.int 0)]) (.bin .add false (.var 2) (.lit (.int 1)))), .for_ (.tp [.nm 4, .nm 5]) (.enum (.var 0)) [.augI .add 3 (.prim .min2 false [.var 4, .var 2]) (.prim .max2 false [.lit (.int 0), .bin .sub false (.var 5) (.call 23 [.var 1, .var 3, .var 4])])], .ret (.prim .tuple false [.var 3])], none⟩
def f25 : Fn := ⟨2, 2, [.ret (.prim .sum false [.call 24 [.var 0, .var 1]])], none⟩
def f26 : Fn := ⟨2, 7, [.asg (.nm 2) (.bin .mul true (.lst false [.tup false [.lit (.int 0), .tup false []]]) (.bin .add false (.prim .len false [.var 0]) (.var 1))), .for_ (.nm 3) (.rng3 (.bin .sub false (.prim .len false [.var 0]) (.lit (.int 1))) (.neg (.lit (.int 1))) (.neg (.lit (.int 1)))) [.asg (.tp [.nm 4, .nm 5]) (.ix (.var 2) (.bin .add false (.var 3) (.var 1))), .asg (.nm 6) (.tup false [.bin .sub false (.var 4) (.ix (.var 0) (.var 3)), .bin .add false (.tup false [.var 3]) (.var 5)]), .setI 2 (.var 3) (.prim .min2 false [.var 6, .ix (.var 2) (.bin .add false (.var 3) (.lit (.int 1)))])], .ret (.ix (.ix (.var 2) (.lit (.int 0))) (.lit (.int 1)))], none⟩
def f27 : Fn := ⟨1, 4, [.asg (.nm 1) (.lst true []), .for_ (.tp [.nm 2, .nm 3]) (.enum (.var 0)) [.ex (.extend 1 (.bin .mul false (.lst false [.var 2]) (.var 3)))], .ret (.var 1)], none⟩
def f28 : Fn := ⟨3, 4, [.for_ (.nm 3) (.rng1 (.prim .len false [.var 0])) [.ifs (.cmp .gt (.prim .sum false [.slc false (.var 0) (some (.var 3)) (some (.bin .add false (.bin .add false (.var 3) (.var 1)) (.lit (.int 1))))]) (.var 2)) [.ret (.var 3)] []], .ret (.lit .non)], none⟩
def f29 : Fn := ⟨3, 8, [.ifs (.cmp .isnot (.call 28 [.var 0, .var 1, .var 2]) (.lit .non)) [.ret (.lit .non)] [], .asg (.nm 3) (.tup false []), .asg (.nm 4) (.bin .mul true (.lst false [.bin .sub false (.neg (.var 1)) (.lit (.int 1))]) (.var 2)), .for_ (.nm 5) (.walk (.call 27 [.var 0])) [.asg (.nm 6) (.pur true false (.comp (.var 7) [7] (.nm 7) (.rng1 (.var 2)) [.cmp .gt (.bin .sub false (.var 5) (.ix (.var 4) (.var 7))) (.var 1)])), .asg (.nm 3) (.bin .add false (.var 3) (.tup false [.ix (.var 6) (.lit (.int 0))])), .setI 4 (.ix (.var 6) (.lit (.int 0))) (.var 5)], .ret (.var 3)], none⟩
def f30 : Fn := ⟨3, 6, [.ifs (.or_ (.cmp .ne (.prim .len false [.var 2]) (.var 0)) (.not_ (.tru (.pur true false (.all_ (.chain .le .le (.lit (.int 0)) (.var 3) (.lit (.int 1))) [3] (.nm 3) (.walk (.var 2)) []))))) [.ret (.lit (.bl false))] [], .ret (.pur true false (.all_ (.cmp .ne (.ix (.var 2) (.var 4)) (.ix (.var 2) (.var 5))) [4, 5] (.tp [.nm 4, .nm 5]) (.walk (.var 1)) []))], none⟩
def f31 : Fn := ⟨2, 0, [], some (enem e3)⟩
def f32 : Fn := ⟨2, 8, [.asg (.nm 2) (.call 31 [.var 0, .var 1]), .asg (.nm 3) (.bin .mul true (.lst false [.neg (.lit (.int 1))]) (.var 0)), .for_ (.nm 4) (.rng1 (.var 0)) [.ifs (.cmp .lt (.ix (.var 3) (.var 4)) (.lit (.int 0))) [.setI 3 (.var 4) (.lit (.int 0)), .asg (.nm 5) (.lst true [.var 4]), .while_ (.tru (.var 5)) [.asg (.nm 6) (.pop1 5), .for_ (.nm 7) (.walk (.ix (.var 2) (.var 6))) [.ifs (.cmp .lt (.ix (.var 3) (.var 7)) (.lit (.int 0))) [.setI 3 (.var 7) (.bin .sub false (.lit (.int 1)) (.ix (.var 3) (.var 6))), .ex (.push 5 (.var 7))] []]]] []], .ret (.ite (.tru (.call 30 [.var 0, .var 1, .var 3])) (.prim .tuple false [.var 3]) (.lit .non))], none⟩
def f33 : Fn := ⟨2, 8, [.ifs (.cmp .isnot (.call 32 [.var 0, .var 1]) (.lit .non)) [.ret (.lit .non)] [], .asg (.nm 2) (.call 31 [.var 0, .var 1]), .asg (.nm 3) (.pur false true (.comp (.tup false [.var 7]) [7] (.nm 7) (.rng1 (.var 0)) [])), .while_ (.tru (.var 3)) [.ifs (.and_ (.cmp .gt (.prim .len false [.ix (.var 3) (.lit (.int 0))]) (.lit (.int 2))) (.cmp .eq (.bin .mod false (.prim .len false [.ix (.var 3) (.lit (.int 0))]) (.lit (.int 2))) (.lit (.int 1)))) [.asg (.nm 5) (.pur true false (.comp (.var 4) [4] (.nm 4) (.walk (.var 3)) [.cmp .isin (.ix (.var 4) (.lit (.int 0))) (.ix (.var 2) (.ix (.var 4) (.neg (.lit (.int 1)))))])), .ifs (.tru (.var 5)) [.ret (.prim .min1 false [.var 5])] []] [], .asg (.nm 6) (.lst true []), .for_ (.nm 4) (.walk (.var 3)) [.ex (.extend 6 (.pur false false (.comp (.bin .add false (.var 4) (.tup false [.var 7])) [7] (.nm 7) (.walk (.ix (.var 2) (.ix (.var 4) (.neg (.lit (.int 1)))))) [.and_ (.cmp .gt (.var 7) (.ix (.var 4) (.lit (.int 0)))) (.cmp .notin (.var 7) (.var 4))])))], .asg (.nm 3) (.var 6)], .ret (.lit .non)], none⟩
def f34 : Fn := ⟨1, 3, [.for_ (.tp [.nm 1, .nm 2]) (.enum (.var 0)) [.ifs (.cmp .gt (.var 2) (.bin .add false (.bin .sub false (.prim .sum false [.var 0]) (.var 2)) (.lit (.int 1)))) [.ret (.var 1)] []], .ret (.lit .non)], none⟩
def f35 : Fn := ⟨1, 7, [.ifs (.cmp .isnot (.call 34 [.var 0]) (.lit .non)) [.ret (.lit .non)] [], .asg (.nm 1) (.prim .list true [.var 0]), .asg (.nm 2) (.tup false []), .for_ (.nm 3) (.rng1 (.prim .sum false [.var 0])) [.asg (.nm 4) (.lst true []), .for_ (.nm 5) (.rng1 (.prim .len false [.var 1])) [.asg (.nm 6) (.bin .add false (.bin .add false (.slc false (.var 1) none (some (.var 5))) (.lst false [.bin .sub false (.ix (.var 1) (.var 5)) (.lit (.int 1))])) (.slc false (.var 1) (some (.bin .add false (.var 5) (.lit (.int 1)))) none)), .ifs (.and_ (.cmp .gt (.ix (.var 1) (.var 5)) (.lit (.int 0))) (.and_ (.cmp .ne (.slc false (.var 2) (some (.neg (.lit (.int 1)))) none) (.tup false [.var 5])) (.and_ (.cmp .is (.call 34 [.var 6]) (.lit .non)) (.cmp .le (.bin .mul false (.lit (.int 2)) (.ix (.var 6) (.var 5))) (.prim .sum false [.var 6]))))) [.ex (.push 4 (.var 5))] []], .asg (.nm 2) (.bin .add false (.var 2) (.tup false [.ix (.var 4) (.lit (.int 0))])), .augI .sub 1 (.ix (.var 4) (.lit (.int 0))) (.lit (.int 1))], .ret (.var 2)], none⟩
def f36 : Fn := ⟨3, 5, [.for_ (.nm 3) (.rng1 (.var 1)) [.asg (.nm 4) (.bin .sub false (.var 2) (.bin .mul false (.var 3) (.var 0))), .ifs (.and_ (.cmp .ge (.var 4) (.lit (.int 0))) (.cmp .eq (.bin .mod false (.var 4) (.var 1)) (.lit (.int 0)))) [.ret (.tup false [.var 3, .bin .fdiv false (.var 4) (.var 1)])] []], .ret (.lit .non)], none⟩
def f37 : Fn := ⟨3, 3, [.ret (.bin .sub false (.bin .sub false (.bin .sub false (.bin .fdiv false (.bin .mul false (.var 0) (.var 1)) (.prim .gcd false [.var 0, .var 1])) (.var 0)) (.var 1)) (.var 2))], none⟩
def f38 : Fn := ⟨2, 2, [.ret (.call 37 [.var 0, .var 1, .lit (.int 0)])], none⟩
def f39 : Fn := ⟨2, 3, [.asg (.nm 2) (.prim .gcd false [.var 0, .var 1]), .ret (.bin .fdiv false (.bin .mul false (.bin .sub false (.bin .fdiv false (.var 0) (.var 2)) (.lit (.int 1))) (.bin .sub false (.bin .fdiv false (.var 1) (.var 2)) (.lit (.int 1)))) (.lit (.int 2)))], none⟩
def f40 : Fn := ⟨3, 5, [.ret (.prim .min1 false [.pur false false (.comp (.tup false [.prim .sum false [.pur false false (.comp (.bin .mod false (.var 4) (.var 3)) [4] (.nm 4) (.walk (.var 0)) [])], .var 3]) [3] (.nm 3) (.rng2 (.var 1) (.bin .add false (.var 2) (.lit (.int 1)))) [])])], none⟩
def f41 : Fn := ⟨1, 7, [.asg (.nm 1) (.pur false false (.dcomp (.var 6) (.var 5) [5, 6] (.tp [.nm 5, .nm 6]) (.enum (.var 0)) [])), .for_ (.tp [.nm 2, .nm 3, .nm 4]) (.combs (.rng1 (.prim .len false [.var 0])) (.lit (.int 3))) [.ifs (.chain .lt .lt (.ix (.var 1) (.var 4)) (.ix (.var 1) (.var 2)) (.ix (.var 1) (.var 3))) [.ret (.tup true [.var 2, .var 3, .var 4])] []], .ret (.lit .non)], none⟩
def f42 : Fn := ⟨2, 5, [.for_ (.nm 2) (.rng1 (.prim .len false [.var 0])) [.asg (.nm 3) (.slc false (.var 0) none (some (.meth .index (.var 0) (.var 2)))), .ifs (.cmp .gt (.bin .sub false (.bin .add false (.var 2) (.lit (.int 1))) (.prim .len false [.pur false false (.comp (.var 4) [4] (.nm 4) (.walk (.var 3)) [.cmp .lt (.var 4) (.var 2)])])) (.var 1)) [.ret (.var 2)] []], .ret (.lit .non)], none⟩
def f43 : Fn := ⟨2, 5, [.ifs (.or_ (.cmp .isnot (.call 41 [.var 0]) (.lit .non)) (.cmp .isnot (.call 42 [.var 0, .var 1]) (.lit .non))) [.ret (.lit .non)] [], .asg (.nm 2) (.lit (.str [])), .asg (.nm 3) (.lit (.int 0)), .for_ (.nm 4) (.walk (.var 0)) [.aug .add 2 (.bin .add false (.bin .mul false (.lit (.str [112])) (.prim .max2 false [.lit (.int 0), .bin .sub false (.bin .add false (.var 4) (.lit (.int 1))) (.var 3)])) (.lit (.str [116]))), .asg (.nm 3) (.prim .max2 false [.var 3, .bin .add false (.var 4) (.lit (.int 1))])], .ret (.var 2)], none⟩
def f44 : Fn := ⟨2, 9, [.asg (.nm 2) (.lst false []), .asg (.nm 3) (.tup false []), .for_ (.nm 4) (.walk (.var 0)) [.asg (.nm 5) (.pur false false (.comp (.var 7) [7, 8] (.tp [.nm 7, .nm 8]) (.enum (.var 2)) [.cmp .gt (.var 8) (.var 4)])), .ifs (.and_ (.not_ (.tru (.var 5))) (.cmp .eq (.prim .len false [.var 2]) (.var 1))) [.ret (.lit .non)] [], .asg (.nm 6) (.ite (.tru (.var 5)) (.ix (.var 5) (.lit (.int 0))) (.prim .len false [.var 2])), .asg (.nm 2) (.bin .add false (.bin .add false (.slc false (.var 2) none (some (.var 6))) (.lst false [.var 4])) (.slc false (.var 2) (some (.bin .add false (.var 6) (.lit (.int 1)))) none)), .asg (.nm 3) (.bin .add false (.var 3) (.tup false [.var 6]))], .ret (.var 3)], none⟩
def f45 : Fn := ⟨1, 7, [.asg (.nm 1) (.dct true []), .for_ (.nm 2) (.rng3 (.bin .sub false (.prim .len false [.var 0]) (.lit (.int 1))) (.neg (.lit (.int 1))) (.neg (.lit (.int 1)))) [.asg (.nm 3) (.pur true false (.comp (.ix (.var 1) (.var 6)) [6] (.nm 6) (.walk (.slc false (.var 0) (some (.bin .add false (.var 2) (.lit (.int 1)))) none)) [.cmp .gt (.var 6) (.ix (.var 0) (.var 2))])), .asg (.tp [.nm 4, .nm 5]) (.ite (.tru (.var 3)) (.prim .min1 false [.var 3]) (.tup false [.lit (.int 0), .tup false []])), .setI 1 (.ix (.var 0) (.var 2)) (.tup false [.bin .sub false (.var 4) (.lit (.int 1)), .bin .add false (.tup false [.ix (.var 0) (.var 2)]) (.var 5)])], .ret (.ite (.tru (.var 0)) (.ix (.prim .min1 false [.pur true false (.comp (.ix (.var 1) (.var 6)) [6] (.nm 6) (.walk (.var 0)) [])]) (.lit (.int 1))) (.tup false []))], none⟩
def f46 : Fn := ⟨1, 5, [.for_ (.tp [.nm 1, .tp [.nm 2, .nm 3]]) (.enum (.var 0)) [.for_ (.nm 4) (.rng2 (.bin .add false (.var 1) (.lit (.int 1))) (.prim .len false [.var 0])) [.ifs (.cmp .gt (.prim .max2 false [.var 2, .ix (.ix (.var 0) (.var 4)) (.lit (.int 0))]) (.prim .min2 false [.var 3, .ix (.ix (.var 0) (.var 4)) (.lit (.int 1))])) [.ret (.tup false [.var 1, .var 4])] []]], .ret (.lit .non)], none⟩
def f47 : Fn := ⟨1, 4, [.asg (.nm 1) (.prim .max1 false [.pur false false (.comp (.ix (.var 3) (.lit (.int 0))) [3] (.nm 3) (.walk (.var 0)) [])]), .asg (.nm 2) (.prim .min1 false [.pur false false (.comp (.ix (.var 3) (.lit (.int 1))) [3] (.nm 3) (.walk (.var 0)) [])]), .ret (.ite (.cmp .le (.var 1) (.var 2)) (.tup false [.var 1, .var 2]) (.lit .non))], none⟩
def f48 : Fn := ⟨2, 5, [.ret (.prim .tuple false [.pur false false (.comp (.var 2) [2, 3, 4] (.tp [.nm 2, .tp [.nm 3, .nm 4]]) (.enum (.var 0)) [.not_ (.chain .le .le (.var 3) (.var 1) (.var 4))])])], none⟩
def f49 : Fn := ⟨1, 3, [.ret (.prim .min1 false [.pur false false (.comp (.prim .len false [.call 48 [.var 0, .var 1]]) [1, 2] (.tp [.nm 1, .nm 2]) (.walk (.var 0)) [])])], none⟩
def f50 : Fn := ⟨2, 6, [.asg (.nm 2) (.prim .max1 false [.pur false false (.comp (.var 4) [3, 4] (.tp [.nm 3, .nm 4]) (.walk (.var 0)) [])]), .ret (.prim .tuple false [.pur false false (.comp (.var 5) [5] (.nm 5) (.rng1 (.bin .add false (.var 2) (.lit (.int 1)))) [.cmp .le (.prim .len false [.call 48 [.var 0, .var 5]]) (.var 1)])])], none⟩
def f51 : Fn := ⟨2, 8, [.asg (.nm 2) (.call 50 [.var 0, .var 1]), .asg (.nm 3) (.lst true []), .for_ (.tp [.nm 4, .tp [.nm 6, .nm 5]]) (.enum (.var 0)) [.ifs (.not_ (.tru (.pur true false (.any_ (.chain .le .le (.var 6) (.var 7) (.var 5)) [7] (.nm 7) (.walk (.var 2)) [])))) [.ex (.push 3 (.var 4))] []], .ret (.prim .tuple false [.var 3])], none⟩
def f52 : Fn := ⟨3, 9, [.for_ (.tp [.nm 3, .tp [.nm 4, .nm 5]]) (.enum (.var 0)) [.for_ (.nm 6) (.rng2 (.bin .add false (.var 3) (.lit (.int 1))) (.prim .len false [.var 0])) [.asg (.nm 7) (.bin .sub false (.ix (.ix (.var 0) (.var 6)) (.lit (.int 0))) (.var 4)), .asg (.nm 8) (.bin .sub false (.ix (.ix (.var 0) (.var 6)) (.lit (.int 1))) (.var 5)), .ifs (.or_ (.cmp .gt (.var 8) (.bin .mul false (.var 1) (.var 7))) (.cmp .gt (.neg (.var 8)) (.bin .mul false (.var 2) (.var 7)))) [.ret (.tup false [.var 3, .var 6])] []]], .ret (.lit .non)], none⟩
def f53 : Fn := ⟨4, 6, [.asg (.tp [.nm 4, .nm 5]) (.var 0), .ret (.ite (.cmp .ge (.var 3) (.var 4)) (.bin .sub false (.var 5) (.bin .mul false (.var 2) (.bin .sub false (.var 3) (.var 4)))) (.bin .sub false (.var 5) (.bin .mul false (.var 1) (.bin .sub false (.var 4) (.var 3)))))], none⟩
def f54 : Fn := ⟨4, 6, [.asg (.tp [.nm 4, .nm 5]) (.var 0), .ret (.ite (.cmp .ge (.var 3) (.var 4)) (.bin .add false (.var 5) (.bin .mul false (.var 1) (.bin .sub false (.var 3) (.var 4)))) (.bin .add false (.var 5) (.bin .mul false (.var 2) (.bin .sub false (.var 4) (.var 3)))))], none⟩
def f55 : Fn := ⟨4, 6, [.ifs (.cmp .isnot (.call 52 [.var 0, .var 1, .var 2]) (.lit .non)) [.ret (.lit .non)] [], .asg (.nm 4) (.prim .max1 false [.pur false false (.comp (.call 53 [.var 5, .var 1, .var 2, .var 3]) [5] (.nm 5) (.walk (.var 0)) [])]), .ret (.tup false [.prim .max2 false [.lit (.int 0), .var 4], .prim .min1 false [.pur false false (.comp (.call 54 [.var 5, .var 1, .var 2, .var 3]) [5] (.nm 5) (.walk (.var 0)) [])]])], none⟩
def f56 : Fn := ⟨4, 5, [.ifs (.cmp .isnot (.call 52 [.var 0, .var 1, .var 2]) (.lit .non)) [.ret (.lit .non)] [], .ret (.prim .tuple false [.pur false false (.comp (.ix (.call 55 [.var 0, .var 1, .var 2, .var 4]) (.lit (.int 0))) [4] (.nm 4) (.rng1 (.bin .add false (.var 3) (.lit (.int 1)))) [])])], none⟩
def f57 : Fn := ⟨1, 2, [.ret (.prim .tuple false [.pur false false (.comp (.var 1) [1] (.nm 1) (.rng1 (.bin .sub false (.prim .len false [.var 0]) (.lit (.int 1)))) [.cmp .ge (.ix (.var 0) (.var 1)) (.bin .add false (.ix (.var 0) (.bin .add false (.var 1) (.lit (.int 1)))) (.lit (.int 2)))])])], none⟩
def f58 : Fn := ⟨2, 3, [.for_ (.nm 2) (.walk (.var 1)) [.ifs (.cmp .notin (.var 2) (.call 57 [.var 0])) [.ret (.lit .non)] [], .asg (.nm 0) (.bin .add false (.bin .add false (.slc false (.var 0) none (some (.var 2))) (.tup false [.bin .sub false (.ix (.var 0) (.var 2)) (.lit (.int 1)), .bin .add false (.ix (.var 0) (.bin .add false (.var 2) (.lit (.int 1)))) (.lit (.int 1))])) (.slc false (.var 0) (some (.bin .add false (.var 2) (.lit (.int 2)))) none))], .ret (.var 0)], none⟩
def f59 : Fn := ⟨1, 5, [.asg (.nm 1) (.bin .mul true (.lst false [.lit (.int 0)]) (.prim .max2 false [.lit (.int 0), .bin .sub false (.prim .len false [.var 0]) (.lit (.int 1))])), .asg (.nm 2) (.prim .list true [.var 0]), .asg (.nm 3) (.lit (.bl true)), .while_ (.tru (.var 3)) [.asg (.nm 3) (.lit (.bl false)), .for_ (.nm 4) (.rng1 (.bin .sub false (.prim .len false [.var 2]) (.lit (.int 1)))) [.while_ (.cmp .ge (.ix (.var 2) (.var 4)) (.bin .add false (.ix (.var 2) (.bin .add false (.var 4) (.lit (.int 1)))) (.lit (.int 2)))) [.augI .sub 2 (.var 4) (.lit (.int 1)), .augI .add 2 (.bin .add false (.var 4) (.lit (.int 1))) (.lit (.int 1)), .augI .add 1 (.var 4) (.lit (.int 1)), .asg (.nm 3) (.lit (.bl true))]]], .ret (.tup false [.prim .tuple false [.var 2], .prim .tuple false [.var 1]])], none⟩
def f60 : Fn := ⟨1, 1, [.ret (.ix (.call 59 [.var 0]) (.lit (.int 0)))], none⟩
def f61 : Fn := ⟨1, 1, [.ret (.ix (.call 59 [.var 0]) (.lit (.int 1)))], none⟩
def f62 : Fn := ⟨2, 5, [.ifs (.or_ (.cmp .ne (.prim .len false [.var 1]) (.prim .max2 false [.lit (.int 0), .bin .sub false (.prim .len false [.var 0]) (.lit (.int 1))])) (.not_ (.tru (.pur true false (.all_ (.cmp .ge (.var 4) (.lit (.int 0))) [4] (.nm 4) (.walk (.var 1)) []))))) [.ret (.lit (.bl false))] [], .asg (.nm 2) (.prim .list true [.var 0]), .for_ (.tp [.nm 3, .nm 4]) (.enum (.var 1)) [.augI .sub 2 (.var 3) (.var 4), .augI .add 2 (.bin .add false (.var 3) (.lit (.int 1))) (.var 4)], .ret (.cmp .eq (.call 57 [.var 2]) (.tup false []))], none⟩
def f63 : Fn := ⟨2, 2, [.ret (.and_ (.cmp .lt (.ix (.var 0) (.lit (.int 0))) (.ix (.var 1) (.lit (.int 0)))) (.cmp .lt (.ix (.var 0) (.lit (.int 1))) (.ix (.var 1) (.lit (.int 1)))))], none⟩
def f64 : Fn := ⟨1, 11, [.asg (.nm 1) (.prim .len false [.var 0]), .asg (.nm 2) (.lst true []), .for_ (.nm 3) (.rng1 (.bin .add false (.var 1) (.lit (.int 1)))) [.ex (.extend 2 (.ofIt false false (.combs (.rng1 (.var 1)) (.var 3))))], .asg (.nm 5) (.lst true [.pur true false (.dcomp (.var 4) (.lit (.int 0)) [4] (.nm 4) (.walk (.var 2)) [])]), .for_ (.nm 6) (.rng3 (.bin .sub false (.var 1) (.lit (.int 1))) (.neg (.lit (.int 1))) (.neg (.lit (.int 1)))) [.asg (.nm 7) (.ix (.var 5) (.neg (.lit (.int 1)))), .asg (.nm 8) (.dct true []), .for_ (.nm 4) (.walk (.var 2)) [.asg (.nm 9) (.lst true [.bin .add false (.ix (.var 7) (.var 4)) (.lit (.int 1))]), .for_ (.nm 10) (.rng1 (.var 1)) [.ifs (.and_ (.cmp .notin (.var 10) (.var 4)) (.tru (.call 63 [.ix (.var 0) (.var 6), .ix (.var 0) (.var 10)]))) [.ex (.push 9 (.ix (.var 7) (.prim .tuple false [.prim .sorted false [.bin .add false (.var 4) (.tup false [.var 10])]])))] []], .setI 8 (.var 4) (.prim .min1 false [.var 9])], .ex (.push 5 (.var 8))], .ret (.slr false (.var 5) none)], none⟩
def f65 : Fn := ⟨1, 1, [.ret (.ix (.ix (.call 64 [.var 0]) (.lit (.int 0))) (.tup false []))], none⟩
def f66 : Fn := ⟨1, 9, [.asg (.nm 1) (.call 64 [.var 0]), .asg (.nm 2) (.tup false []), .asg (.nm 3) (.tup false []), .for_ (.tp [.nm 4, .nm 5]) (.enum (.var 0)) [.for_ (.nm 6) (.rng2 (.neg (.lit (.int 1))) (.prim .len false [.var 0])) [.asg (.nm 7) (.ite (.cmp .lt (.var 6) (.lit (.int 0))) (.var 3) (.prim .tuple false [.prim .sorted false [.bin .add false (.var 3) (.tup false [.var 6])]])), .asg (.nm 8) (.or_ (.cmp .lt (.var 6) (.lit (.int 0))) (.and_ (.cmp .notin (.var 6) (.var 3)) (.call 63 [.var 5, .ix (.var 0) (.var 6)]))), .ifs (.and_ (.tru (.var 8)) (.cmp .eq (.bin .add false (.ix (.ix (.var 1) (.bin .add false (.var 4) (.lit (.int 1)))) (.var 7)) (.ite (.cmp .lt (.var 6) (.lit (.int 0))) (.lit (.int 1)) (.lit (.int 0)))) (.ix (.ix (.var 1) (.var 4)) (.var 3)))) [.brk] []], .asg (.nm 2) (.bin .add false (.var 2) (.tup false [.var 6])), .asg (.nm 3) (.var 7)], .ret (.var 2)], none⟩
def f67 : Fn := ⟨2, 5, [.ifs (.or_ (.not_ (.tru (.pur true false (.all_ (.chain .le .lt (.lit (.int 0)) (.var 2) (.prim .len false [.var 0])) [2] (.nm 2) (.walk (.var 1)) [])))) (.not_ (.tru (.call 22 [.var 1])))) [.ret (.lit (.bl false))] [], .ret (.not_ (.tru (.pur true false (.any2 (.call 63 [.ix (.var 0) (.var 3), .ix (.var 0) (.var 4)]) [3, 4] [4] (.nm 3) (.walk (.var 1)) [] (.nm 4) (.walk (.var 1)) []))))], none⟩
def f68 : Fn := ⟨1, 3, [.for_ (.nm 1) (.rng3 (.prim .len false [.var 0]) (.lit (.int 0)) (.neg (.lit (.int 1)))) [.for_ (.nm 2) (.combs (.rng1 (.prim .len false [.var 0])) (.var 1)) [.ifs (.tru (.call 67 [.var 0, .var 2])) [.ret (.var 2)] []]], .ret (.tup false [])], none⟩
def f69 : Fn := ⟨2, 2, [.ret (.bin .mod false (.prim .sum false [.var 1]) (.var 0))], none⟩
def f70 : Fn := ⟨3, 10, [.asg (.nm 3) (.dct true [.lit (.int 0), .tup false []]), .asg (.nm 4) (.lst true [.tup false [.lit (.int 0), .tup false []]]), .while_ (.tru (.var 4)) [.asg (.nm 5) (.lst true []), .for_ (.tp [.nm 6, .nm 7]) (.walk (.var 4)) [.for_ (.nm 8) (.walk (.var 1)) [.asg (.nm 9) (.bin .mod false (.bin .add false (.var 6) (.var 8)) (.var 0)), .ifs (.cmp .notin (.var 9) (.var 3)) [.setI 3 (.var 9) (.bin .add false (.var 7) (.tup false [.var 8])), .ex (.push 5 (.tup false [.var 9, .bin .add false (.var 7) (.tup false [.var 8])]))] []]], .asg (.nm 4) (.var 5)], .ret (.dget (.var 3) (.var 2) (.lit .non))], none⟩
def f71 : Fn := ⟨3, 6, [.asg (.nm 3) (.var 0), .for_ (.nm 4) (.walk (.var 1)) [.asg (.nm 3) (.prim .gcd false [.var 3, .var 4])], .ifs (.cmp .eq (.bin .mod false (.var 2) (.var 3)) (.lit (.int 0))) [.ret (.lit .non)] [], .ret (.prim .min1 false [.pur false false (.comp (.var 5) [5] (.nm 5) (.rng2 (.lit (.int 1)) (.bin .add false (.var 3) (.lit (.int 1)))) [.and_ (.cmp .eq (.bin .mod false (.var 3) (.var 5)) (.lit (.int 0))) (.cmp .ne (.bin .mod false (.var 2) (.var 5)) (.lit (.int 0)))])])], none⟩
def f72 : Fn := ⟨2, 8, [.asg (.nm 2) (.bin .mul true (.lst false [.lit (.int 0)]) (.var 0)), .for_ (.nm 3) (.rng1 (.bin .add false (.var 0) (.lit (.int 1)))) [.asg (.nm 4) (.lit (.bl false)), .for_ (.tp [.nm 5, .nm 6, .nm 7]) (.walk (.var 1)) [.ifs (.cmp .gt (.bin .add false (.ix (.var 2) (.var 5)) (.var 7)) (.ix (.var 2) (.var 6))) [.setI 2 (.var 6) (.bin .add false (.ix (.var 2) (.var 5)) (.var 7)), .asg (.nm 4) (.lit (.bl true))] []], .ifs (.not_ (.tru (.var 4))) [.ret (.prim .tuple false [.var 2])] []], .ret (.lit .non)], none⟩
def f73 : Fn := ⟨2, 4, [.ifs (.not_ (.tru (.pur true false (.all_ (.chain .le .lt (.lit (.int 0)) (.var 2) (.prim .len false [.var 0])) [2] (.nm 2) (.walk (.var 1)) [])))) [.ret (.lit (.bl false))] [], .ret (.pur true false (.all_ (.cmp .eq (.ix (.ix (.var 0) (.ix (.var 1) (.var 3))) (.lit (.int 1))) (.ix (.ix (.var 0) (.ix (.var 1) (.bin .add false (.var 3) (.lit (.int 1))))) (.lit (.int 0)))) [3] (.nm 3) (.rng1 (.bin .sub false (.prim .len false [.var 1]) (.lit (.int 1)))) []))], none⟩
def f74 : Fn := ⟨2, 3, [.ret (.prim .sum false [.pur false false (.comp (.ix (.ix (.var 0) (.var 2)) (.lit (.int 2))) [2] (.nm 2) (.walk (.var 1)) [])])], none⟩
def f75 : Fn := ⟨4, 4, [.ifs (.not_ (.tru (.call 73 [.var 0, .var 2]))) [.ret (.lit (.bl false))] [], .ifs (.and_ (.cmp .ne (.var 2) (.tup false [])) (.cmp .ne (.ix (.ix (.var 0) (.ix (.var 2) (.neg (.lit (.int 1))))) (.lit (.int 1))) (.var 1))) [.ret (.lit (.bl false))] [], .ret (.cmp .ge (.call 74 [.var 0, .var 2]) (.var 3))], none⟩
def f76 : Fn := ⟨4, 10, [.asg (.nm 4) (.lst true [.dct false [.var 2, .lit (.int 0)]]), .for_ (.nm 5) (.rng1 (.var 3)) [.asg (.nm 6) (.dct true []), .for_ (.tp [.nm 7, .nm 8, .nm 9]) (.walk (.var 1)) [.ifs (.and_ (.cmp .isin (.var 8) (.ix (.var 4) (.neg (.lit (.int 1))))) (.or_ (.cmp .notin (.var 7) (.var 6)) (.cmp .lt (.ix (.var 6) (.var 7)) (.bin .add false (.var 9) (.ix (.ix (.var 4) (.neg (.lit (.int 1)))) (.var 8)))))) [.setI 6 (.var 7) (.bin .add false (.var 9) (.ix (.ix (.var 4) (.neg (.lit (.int 1)))) (.var 8)))] []], .ex (.push 4 (.var 6))], .ret (.var 4)], none⟩
def f77 : Fn := ⟨4, 13, [.ifs (.cmp .lt (.dget (.ix (.var 1) (.neg (.lit (.int 1)))) (.var 2) (.bin .sub false (.var 3) (.lit (.int 1)))) (.var 3)) [.ret (.lit .non)] [], .asg (.nm 4) (.tup false []), .asg (.nm 5) (.var 2), .asg (.nm 6) (.lit (.int 0)), .for_ (.nm 7) (.rng3 (.bin .sub false (.prim .len false [.var 1]) (.lit (.int 2))) (.neg (.lit (.int 1))) (.neg (.lit (.int 1)))) [.asg (.nm 8) (.pur false false (.comp (.var 9) [9, 10, 11, 12] (.tp [.nm 9, .tp [.nm 10, .nm 11, .nm 12]]) (.enum (.var 0)) [.and_ (.cmp .eq (.var 10) (.var 5)) (.and_ (.cmp .isin (.var 11) (.ix (.var 1) (.var 7))) (.cmp .ge (.bin .add false (.bin .add false (.var 6) (.var 12)) (.ix (.ix (.var 1) (.var 7)) (.var 11))) (.var 3)))])), .asg (.nm 4) (.bin .add false (.var 4) (.tup false [.ix (.var 8) (.lit (.int 0))])), .asg (.nm 5) (.ix (.ix (.var 0) (.ix (.var 8) (.lit (.int 0)))) (.lit (.int 1))), .aug .add 6 (.ix (.ix (.var 0) (.ix (.var 8) (.lit (.int 0)))) (.lit (.int 2)))], .ret (.var 4)], none⟩
def f78 : Fn := ⟨2, 6, [.for_ (.nm 2) (.rng2 (.lit (.int 1)) (.bin .add false (.var 0) (.lit (.int 1)))) [.asg (.nm 3) (.pur false false (.comp (.call 77 [.var 1, .call 76 [.var 0, .var 1, .var 4, .var 2], .var 4, .lit (.int 1)]) [4] (.nm 4) (.rng1 (.var 0)) [])), .asg (.nm 3) (.pur false false (.comp (.var 5) [5] (.nm 5) (.walk (.var 3)) [.cmp .isnot (.var 5) (.lit .non)])), .ifs (.tru (.var 3)) [.ret (.prim .min1 false [.var 3])] []], .ret (.lit .non)], none⟩
def f79 : Fn := ⟨3, 9, [.asg (.nm 3) (.call 72 [.var 0, .var 1]), .ifs (.cmp .is (.var 3) (.lit .non)) [.ret (.lit .non)] [], .ifs (.cmp .eq (.ix (.var 3) (.var 2)) (.lit (.int 0))) [.ret (.tup false [])] [], .asg (.nm 4) (.call 76 [.var 0, .var 1, .var 2, .var 0]), .for_ (.nm 5) (.rng2 (.lit (.int 1)) (.bin .add false (.var 0) (.lit (.int 1)))) [.asg (.nm 6) (.pur false false (.comp (.call 77 [.var 1, .slc false (.var 4) none (some (.bin .add false (.var 5) (.lit (.int 1)))), .var 7, .ix (.var 3) (.var 2)]) [7] (.nm 7) (.rng1 (.var 0)) [])), .asg (.nm 6) (.pur false false (.comp (.var 8) [8] (.nm 8) (.walk (.var 6)) [.cmp .isnot (.var 8) (.lit .non)])), .ifs (.tru (.var 6)) [.ret (.prim .min1 false [.var 6])] []], .ret (.lit .non)], none⟩
def f80 : Fn := ⟨2, 2, [.ifs (.cmp .lt (.var 1) (.prim .len false [.var 0])) [.ret (.ix (.var 0) (.var 1))] [], .ret (.bin .add false (.bin .mul false (.lit (.int 5)) (.var 1)) (.lit (.int 3)))], none⟩
def f81 : Fn := ⟨2, 8, [.asg (.nm 2) (.prim .abs false [.prim .int false [.var 0]]), .asg (.nm 3) (.cmp .ge (.var 2) (.bin .pow false (.lit (.int 10)) (.lit (.int 18)))), .asg (.nm 4) (.var 2), .asg (.nm 5) (.lst true []), .for_ (.nm 6) (.rng1 (.var 1)) [.ifs (.and_ (.tru (.var 3)) (.cmp .gt (.var 2) (.lit (.int 0)))) [.ex (.push 5 (.bin .mod false (.prim .int false [.var 2]) (.lit (.int 5040)))), .asg (.nm 2) (.bin .fdiv false (.var 2) (.lit (.int 5040)))] [.asg (.nm 7) (.bin .mod false (.prim .int false [.bin .add false (.bin .add false (.bin .mul false (.var 4) (.lit (.int 48271))) (.bin .mul false (.bin .add false (.var 6) (.lit (.int 1))) (.lit (.int 69621)))) (.lit (.int 11))]) (.lit (.int 2147483647))), .asg (.nm 7) (.bin .mod false (.prim .int false [.bin .add false (.bin .mul false (.var 7) (.var 7)) (.bin .mul false (.lit (.int 40692)) (.bin .add false (.var 6) (.lit (.int 3))))]) (.lit (.int 2147483399))), .ex (.push 5 (.bin .mod false (.prim .int false [.bin .fdiv false (.var 7) (.lit (.int 64))]) (.lit (.int 5040))))]], .ret (.var 5)], none⟩
def f82 : Fn := ⟨1, 1, [.ret (.and_ (.prim .isInt false [.var 0]) (.not_ (.tru (.prim .isBool false [.var 0]))))], none⟩
def f83 : Fn := ⟨2, 3, [.ifs (.cmp .is (.var 1) (.lit .non)) [.ret (.cmp .is (.var 0) (.lit .non))] [], .ifs (.tru (.prim .isBool false [.var 1])) [.ret (.and_ (.prim .isBool false [.var 0]) (.cmp .eq (.var 0) (.var 1)))] [], .ifs (.tru (.prim .isInt false [.var 1])) [.ret (.and_ (.call 82 [.var 0]) (.cmp .eq (.var 0) (.var 1)))] [], .ifs (.tru (.prim .isStr false [.var 1])) [.ret (.and_ (.prim .isStr false [.var 0]) (.cmp .eq (.var 0) (.var 1)))] [], .ifs (.or_ (.not_ (.tru (.prim .isTup false [.var 0]))) (.cmp .ne (.prim .len false [.var 0]) (.prim .len false [.var 1]))) [.ret (.lit (.bl false))] [], .ret (.prim .all1 false [.pur false false (.comp (.call 83 [.ix (.var 0) (.var 2), .ix (.var 1) (.var 2)]) [2] (.nm 2) (.rng1 (.prim .len false [.var 1])) [])])], none⟩
def f84 : Fn := ⟨2, 4, [.asg (.nm 2) (.ix (.var 0) (.lit (.str [97, 116]))), .setI 0 (.lit (.str [97, 116])) (.bin .add false (.var 2) (.lit (.int 1))), .asg (.nm 3) (.ix (.var 0) (.lit (.str [100, 114, 97, 119, 115]))), .ret (.bin .mod false (.bin .add false (.bin .fdiv false (.prim .int false [.ix (.var 3) (.bin .mod false (.var 2) (.prim .len false [.var 3]))]) (.ix (.tup false [.lit (.int 1), .lit (.int 7), .lit (.int 59), .lit (.int 211)]) (.bin .mod false (.bin .fdiv false (.var 2) (.prim .len false [.var 3])) (.lit (.int 4))))) (.bin .fdiv false (.var 2) (.bin .mul false (.lit (.int 4)) (.prim .len false [.var 3])))) (.var 1))], none⟩
def f85 : Fn := ⟨1, 5, [.asg (.nm 1) (.tup false [.tup false [.lit (.int 0), .lit (.int 1), .var 0], .tup false [.lit (.int 1), .lit (.int 2), .bin .sub false (.lit (.int 0)) (.lit (.int 2))], .tup false [.lit (.int 0), .lit (.int 2), .lit (.int 1)]]), .asg (.nm 2) (.tup false [.call 72 [.lit (.int 3), .var 1], .call 79 [.lit (.int 3), .var 1, .lit (.int 2)], .call 79 [.lit (.int 3), .var 1, .lit (.int 0)], .call 75 [.var 1, .lit (.int 2), .tup false [.lit (.int 0), .lit (.int 1)], .bin .sub false (.var 0) (.lit (.int 2))], .call 75 [.var 1, .lit (.int 2), .tup false [.lit (.int 0), .lit (.int 1)], .bin .sub false (.var 0) (.lit (.int 1))]]), .ifs (.not_ (.tru (.call 83 [.var 2, .tup false [.tup false [.lit (.int 0), .var 0, .prim .max2 false [.lit (.int 1), .bin .sub false (.var 0) (.lit (.int 2))]], .ite (.cmp .le (.var 0) (.lit (.int 3))) (.tup false [.lit (.int 2)]) (.tup false [.lit (.int 0), .lit (.int 1)]), .tup false [], .lit (.bl true), .lit (.bl false)]]))) [.ret (.lit (.bl false))] [], .asg (.nm 3) (.tup false [.tup false [.lit (.int 0), .lit (.int 1), .lit (.int 1)], .tup false [.lit (.int 1), .lit (.int 0), .lit (.int 0)], .tup false [.lit (.int 1), .lit (.int 1), .bin .sub false (.lit (.int 0)) (.lit (.int 5))]]), .ifs (.not_ (.tru (.call 83 [.tup false [.call 72 [.lit (.int 2), .var 3], .call 78 [.lit (.int 2), .var 3], .call 78 [.lit (.int 2), .bin .add false (.var 3) (.tup false [.tup false [.lit (.int 0), .lit (.int 0), .var 0]])], .call 78 [.lit (.int 3), .var 1]], .tup false [.lit .non, .tup false [.lit (.int 0), .lit (.int 1)], .tup false [.lit (.int 3)], .lit .non]]))) [.ret (.lit (.bl false))] [], .asg (.nm 4) (.tup false [.tup false [.lit (.int 2), .lit (.int 3)], .tup false [.lit (.int 1), .lit (.int 1)], .tup false [.lit (.int 3), .lit (.int 9)]]), .asg (.nm 2) (.tup false [.call 12 [.var 4], .call 11 [.tup false [.tup false [.lit (.int 2), .lit (.int 1)], .tup false [.lit (.int 1), .lit (.int 5)]]], .call 14 [.var 4, .lit (.int 1), .lit (.int 0)], .call 13 [.var 4, .lit (.int 1), .lit (.int 0)], .call 15 [.var 4], .call 16 [.var 4, .lit (.int 2)]]), .ifs (.not_ (.tru (.call 83 [.var 2, .tup false [.tup false [.lit (.int 1), .lit (.int 0), .lit (.int 2)], .lit (.int 1), .lit (.bl true), .lit (.int 0), .tup false [.tup false [.lit (.int 0), .lit (.int 2)], .tup false [.lit (.int 1), .lit (.int 0)], .tup false [.lit (.int 1), .lit (.int 2)]], .lit (.int 2)]]))) [.ret (.lit (.bl false))] [], .asg (.nm 2) (.tup false [.call 32 [.lit (.int 4), .tup false [.tup false [.lit (.int 0), .lit (.int 1)], .tup false [.lit (.int 1), .lit (.int 2)]]], .call 33 [.lit (.int 3), .tup false [.tup false [.lit (.int 0), .lit (.int 1)], .tup false [.lit (.int 0), .lit (.int 2)], .tup false [.lit (.int 1), .lit (.int 2)]]], .call 35 [.tup false [.lit (.int 2), .lit (.int 1), .lit (.int 1)]], .call 34 [.tup false [.lit (.int 1), .lit (.int 4), .lit (.int 1)]], .call 35 [.tup false [.lit (.int 1), .lit (.int 4), .lit (.int 1)]]]), .ifs (.not_ (.tru (.call 83 [.var 2, .tup false [.tup false [.lit (.int 0), .lit (.int 1), .lit (.int 0), .lit (.int 0)], .tup false [.lit (.int 0), .lit (.int 1), .lit (.int 2)], .tup false [.lit (.int 0), .lit (.int 1), .lit (.int 0), .lit (.int 2)], .lit (.int 1), .lit .non]]))) [.ret (.lit (.bl false))] [], .ret (.call 83 [.tup false [.call 69 [.lit (.int 12), .tup false [.lit (.int 5), .lit (.int 5), .var 0]], .call 70 [.lit (.int 12), .tup false [.lit (.int 8)], .lit (.int 4)], .call 71 [.lit (.int 12), .tup false [.lit (.int 8)], .lit (.int 2)], .call 70 [.lit (.int 12), .tup false [.lit (.int 8)], .lit (.int 2)]], .tup false [.bin .mod false (.bin .add false (.lit (.int 10)) (.var 0)) (.lit (.int 12)), .tup false [.lit (.int 8), .lit (.int 8)], .lit (.int 4), .lit .non]])], none⟩
def f86 : Fn := ⟨1, 4, [.asg (.nm 1) (.tup true [.lit (.int 1), .lit (.int 2), .lit (.int 0), .lit (.int 1)]), .asg (.nm 2) (.tup false [.call 24 [.var 1, .lit (.int 2)], .call 25 [.var 1, .lit (.int 2)], .call 26 [.var 1, .lit (.int 2)], .call 29 [.tup true [.lit (.int 2), .lit (.int 1), .lit (.int 0), .lit (.int 1)], .lit (.int 1), .lit (.int 3)], .call 28 [.tup true [.lit (.int 2), .lit (.int 1)], .lit (.int 1), .lit (.int 2)], .call 29 [.tup true [.lit (.int 0), .bin .add false (.bin .mod false (.var 0) (.lit (.int 6))) (.lit (.int 1))], .lit (.int 4), .lit (.int 6)]]), .ifs (.not_ (.tru (.call 83 [.var 2, .tup false [.tup true [.lit (.int 1), .lit (.int 1), .lit (.int 1)], .lit (.int 3), .tup true [.lit (.int 1), .lit (.int 3)], .tup true [.lit (.int 0), .lit (.int 1), .lit (.int 2), .lit (.int 0)], .lit (.int 0), .ofIt true false (.rng1 (.bin .add false (.bin .mod false (.var 0) (.lit (.int 6))) (.lit (.int 1))))]]))) [.ret (.lit (.bl false))] [], .asg (.nm 3) (.tup true [.lit (.int 0), .lit (.int 3), .lit (.int 3), .lit (.int 1), .lit (.int 1), .lit (.int 4), .lit (.int 5)]), .asg (.nm 2) (.tup false [.call 2 [.var 3, .tup true [.lit (.int 0), .lit (.int 1), .lit (.int 2)], .lit (.int 2)], .call 3 [.var 3, .tup true [.lit (.int 0), .lit (.int 1), .lit (.int 2)], .lit (.int 1)], .call 3 [.var 3, .tup true [.lit (.int 0), .lit (.int 1), .lit (.int 2)], .lit (.int 2)], .call 1 [.var 3, .tup true [.lit (.int 0), .lit (.int 1), .lit (.int 2)], .lit (.int 2), .lit (.str [119, 99])], .call 1 [.var 3, .tup true [.lit (.int 1), .lit (.int 2)], .lit (.int 2), .lit (.str [119, 99])]]), .ifs (.or_ (.not_ (.tru (.call 83 [.var 2, .tup true [.lit (.str [99, 119]), .lit (.int 1), .lit .non, .lit (.bl true), .lit (.bl false)]]))) (.not_ (.tru (.call 83 [.call 3 [.tup true [.lit (.int 9), .lit (.int 3), .lit (.int 3), .lit (.int 1), .lit (.int 1), .lit (.int 4), .lit (.int 5)], .tup true [], .lit (.int 0)], .bin .sub false (.lit (.int 0)) (.lit (.int 1))])))) [.ret (.lit (.bl false))] [], .asg (.nm 2) (.tup false [.call 9 [.lit (.int 2), .lit (.int 6), .lit (.int 1), .lit (.int 3), .lit (.int 4)], .call 10 [.lit (.int 2), .lit (.int 6), .lit (.int 1), .lit (.int 3)], .call 7 [.lit (.int 5), .lit (.int 6), .lit (.int 3), .lit (.int 5)], .call 5 [.lit (.int 5), .lit (.int 6), .lit (.int 3)], .call 5 [.lit (.int 2), .lit (.int 6), .lit (.int 1)], .call 6 [.lit (.int 5), .lit (.int 6), .lit (.int 3), .tup true [.lit (.int 4), .var 0]]]), .ifs (.not_ (.tru (.call 83 [.var 2, .tup false [.lit (.str [110, 110, 110, 112]), .tup true [.lit (.str []), .lit (.str [110, 110, 110, 112])], .lit (.int 0), .tup true [.lit (.int 0), .lit (.int 0)], .bin .mul false (.tup true [.bin .sub false (.lit (.int 0)) (.lit (.int 1))]) (.lit (.int 5)), .lit (.bl true)]]))) [.ret (.lit (.bl false))] [], .asg (.nm 2) (.tup false [.call 60 [.tup true [.lit (.int 4), .lit (.int 0), .lit (.int 0)]], .call 61 [.tup true [.lit (.int 4), .lit (.int 0), .lit (.int 0)]], .call 57 [.tup true [.lit (.int 4), .lit (.int 0), .lit (.int 0)]], .call 58 [.tup true [.lit (.int 4), .lit (.int 0), .lit (.int 0)], .tup true [.lit (.int 0), .lit (.int 0), .lit (.int 1)]], .call 58 [.tup true [.lit (.int 4), .lit (.int 0), .lit (.int 0)], .tup true [.lit (.int 1)]], .call 62 [.tup true [.lit (.int 4), .lit (.int 0), .lit (.int 0)], .tup true [.lit (.int 2), .lit (.int 1)]]]), .ifs (.not_ (.tru (.call 83 [.var 2, .tup false [.tup true [.lit (.int 2), .lit (.int 1), .lit (.int 1)], .tup true [.lit (.int 2), .lit (.int 1)], .tup true [.lit (.int 0)], .tup true [.lit (.int 2), .lit (.int 1), .lit (.int 1)], .lit .non, .lit (.bl true)]]))) [.ret (.lit (.bl false))] [], .ifs (.not_ (.tru (.call 83 [.tup false [.call 62 [.tup true [.lit (.int 4), .lit (.int 0), .lit (.int 0)], .tup true [.lit (.int 1), .lit (.int 1)]], .call 60 [.tup true [.var 0]], .call 61 [.tup true [.var 0]], .call 57 [.tup true [.var 0, .bin .add false (.var 0) (.lit (.int 3)), .var 0]]], .tup false [.lit (.bl false), .tup true [.var 0], .tup true [], .tup true [.lit (.int 1)]]]))) [.ret (.lit (.bl false))] [], .asg (.nm 2) (.tup false [.call 43 [.tup true [.lit (.int 1), .lit (.int 0), .lit (.int 2)], .lit (.int 2)], .call 41 [.tup true [.lit (.int 2), .lit (.int 0), .lit (.int 1)]], .call 42 [.tup true [.lit (.int 2), .lit (.int 1), .lit (.int 0)], .lit (.int 2)], .call 43 [.tup true [.lit (.int 2), .lit (.int 1), .lit (.int 0)], .lit (.int 2)], .call 44 [.tup true [.lit (.int 3), .lit (.int 1), .lit (.int 2)], .lit (.int 2)], .call 45 [.tup true [.lit (.int 3), .lit (.int 1), .lit (.int 2), .lit (.int 5)]]]), .ret (.call 83 [.var 2, .tup false [.lit (.str [112, 112, 116, 116, 112, 116]), .tup true [.lit (.int 0), .lit (.int 1), .lit (.int 2)], .lit (.int 2), .lit .non, .tup true [.lit (.int 0), .lit (.int 0), .lit (.int 1)], .tup true [.lit (.int 1), .lit (.int 2), .lit (.int 5)]]])], none⟩
def f87 : Fn := ⟨1, 7, [.asg (.nm 1) (.tup false [.call 36 [.lit (.int 3), .lit (.int 5), .lit (.int 19)], .call 38 [.lit (.int 3), .lit (.int 5)], .call 39 [.lit (.int 3), .lit (.int 5)], .call 37 [.lit (.int 3), .lit (.int 5), .lit (.int 7)], .call 36 [.lit (.int 3), .lit (.int 5), .lit (.int 7)], .call 40 [.tup false [.lit (.int 10), .lit (.int 14)], .lit (.int 3), .lit (.int 5)], .call 40 [.tup false [.var 0], .var 0, .var 0]]), .ifs (.not_ (.tru (.call 83 [.var 1, .tup false [.tup false [.lit (.int 3), .lit (.int 2)], .lit (.int 7), .lit (.int 4), .lit (.int 0), .lit .non, .tup false [.lit (.int 3), .lit (.int 3)], .tup false [.lit (.int 0), .var 0]]]))) [.ret (.lit (.bl false))] [], .asg (.nm 2) (.tup false [.tup false [.lit (.int 1), .lit (.int 4)], .tup false [.lit (.int 3), .lit (.int 6)], .tup false [.lit (.int 5), .lit (.int 8)]]), .asg (.nm 1) (.tup false [.call 46 [.var 2], .call 49 [.var 2], .call 50 [.var 2, .lit (.int 1)], .call 51 [.var 2, .lit (.int 1)]]), .asg (.nm 1) (.bin .add false (.var 1) (.tup false [.call 51 [.var 2, .lit (.int 0)], .call 47 [.slc false (.var 2) none (some (.lit (.int 2)))], .call 47 [.var 2]])), .ifs (.not_ (.tru (.call 83 [.var 1, .tup false [.tup false [.lit (.int 0), .lit (.int 2)], .lit (.int 1), .tup false [.lit (.int 3), .lit (.int 4), .lit (.int 5), .lit (.int 6)], .tup false [], .tup false [.lit (.int 0), .lit (.int 1), .lit (.int 2)], .tup false [.lit (.int 3), .lit (.int 4)], .lit .non]]))) [.ret (.lit (.bl false))] [], .asg (.nm 3) (.tup false [.tup false [.lit (.int 0), .lit (.int 5)], .tup false [.lit (.int 4), .lit (.int 9)]]), .asg (.nm 1) (.tup false [.call 55 [.var 3, .lit (.int 2), .lit (.int 1), .lit (.int 2)], .call 56 [.var 3, .lit (.int 2), .lit (.int 1), .lit (.int 4)], .call 52 [.tup false [.tup false [.lit (.int 0), .lit (.int 5)], .tup false [.lit (.int 1), .lit (.int 9)]], .lit (.int 2), .lit (.int 1)], .call 55 [.tup false [.tup false [.lit (.int 0), .var 0]], .lit (.int 1), .lit (.int 20), .lit (.int 3)], .call 56 [.tup false [.tup false [.lit (.int 2), .lit (.int 1)]], .lit (.int 0), .lit (.int 9), .lit (.int 3)]]), .ifs (.not_ (.tru (.call 83 [.var 1, .tup false [.tup false [.lit (.int 5), .lit (.int 9)], .tup false [.lit (.int 5), .lit (.int 4), .lit (.int 5), .lit (.int 7), .lit (.int 9)], .tup false [.lit (.int 0), .lit (.int 1)], .tup false [.lit (.int 0), .bin .add false (.var 0) (.lit (.int 3))], .tup false [.lit (.int 1), .lit (.int 1), .lit (.int 1), .lit (.int 0)]]]))) [.ret (.lit (.bl false))] [], .asg (.nm 4) (.tup false [.tup false [.lit (.int 2), .lit (.int 0), .lit (.int 4)], .tup false [.lit (.int 3), .lit (.int 0), .lit (.int 2)]]), .asg (.nm 1) (.tup false [.call 21 [.lit (.int 5), .var 4, .lit (.int 3), .lit (.int 6)], .call 19 [.lit (.int 5), .tup false [.tup false [.lit (.int 9), .lit (.int 0), .lit (.int 1)]], .lit (.int 0), .lit (.int 6)], .call 19 [.lit (.int 5), .var 4, .lit (.int 3), .lit (.int 6)]]), .asg (.nm 1) (.bin .add false (.var 1) (.tup false [.call 17 [.lit (.int 5), .var 4, .lit (.int 3), .lit (.int 6), .tup false [.lit (.int 1), .lit (.int 2)]], .call 17 [.lit (.int 5), .var 4, .lit (.int 3), .lit (.int 6), .tup false [.lit (.int 0), .lit (.int 2)]], .call 19 [.lit (.int 5), .tup false [.tup false [.lit (.int 0), .bin .add false (.lit (.int 2)) (.var 0), .lit (.int 20)]], .lit (.int 0), .lit (.int 6)]])), .ifs (.not_ (.tru (.call 83 [.var 1, .tup false [.tup false [.lit (.int 1), .lit (.int 2)], .tup false [.lit (.int 0), .lit (.int 1), .lit (.int 0)], .lit .non, .lit (.bl true), .lit (.bl false), .tup false [.lit (.int 0), .lit (.int 1), .lit (.int 1)]]]))) [.ret (.lit (.bl false))] [], .asg (.tp [.nm 5, .nm 6]) (.tup false [.tup false [.tup false [.lit (.int 1), .lit (.int 1)], .tup false [.lit (.int 3), .lit (.int 3)], .tup false [.lit (.int 2), .lit (.int 2)]], .tup false [.tup false [.lit (.int 1), .lit (.int 5)], .tup false [.lit (.int 5), .lit (.int 1)], .tup false [.lit (.int 2), .lit (.int 2)]]]), .asg (.nm 1) (.tup false [.call 66 [.var 5], .call 65 [.var 5], .call 68 [.var 5], .call 68 [.var 6], .call 66 [.var 6], .call 66 [.tup false [.tup false [.var 0, .var 0], .tup false [.var 0, .var 0]]]]), .ret (.call 83 [.var 1, .tup false [.tup false [.lit (.int 2), .bin .sub false (.lit (.int 0)) (.lit (.int 1)), .lit (.int 1)], .lit (.int 1), .tup false [.lit (.int 0)], .tup false [.lit (.int 0), .lit (.int 1), .lit (.int 2)], .bin .mul false (.tup false [.bin .sub false (.lit (.int 0)) (.lit (.int 1))]) (.lit (.int 3)), .bin .mul false (.tup false [.bin .sub false (.lit (.int 0)) (.lit (.int 1))]) (.lit (.int 2))]])], none⟩
def f88 : Fn := ⟨1, 0, [], some fun _ => none⟩
def fns : List Fn := [f0, f1, f2, f3, f4, f5, f6, f7, f8, f9, f10, f11, f12, f13, f14, f15, f16, f17, f18, f19, f20, f21, f22, f23, f24, f25, f26, f27, f28, f29, f30, f31, f32, f33, f34, f35, f36, f37, f38, f39, f40, f41, f42, f43, f44, f45, f46, f47, f48, f49, f50, f51, f52, f53, f54, f55, f56, f57, f58, f59, f60, f61, f62, f63, f64, f65, f66, f67, f68, f69, f70, f71, f72, f73, f74, f75, f76, f77, f78, f79, f80, f81, f82, f83, f84, f85, f86, f87, f88]
def isT : Option D → Bool
  | some (.bl true) => true
  | _ => false
theorem e0_1 : isT ((calls fns 6).call 85 [.int (.ofNat 1)]) = true := by decide +kernel
theorem e0_2 : isT ((calls fns 6).call 85 [.int (.ofNat 2)]) = true := by decide +kernel
theorem e0_3 : isT ((calls fns 6).call 85 [.int (.ofNat 3)]) = true := by decide +kernel
theorem e0_4 : isT ((calls fns 6).call 85 [.int (.ofNat 4)]) = true := by decide +kernel
theorem e0_5 : isT ((calls fns 6).call 85 [.int (.ofNat 5)]) = true := by decide +kernel
theorem e0_6 : isT ((calls fns 6).call 85 [.int (.ofNat 6)]) = true := by decide +kernel
theorem e0_7 : isT ((calls fns 6).call 85 [.int (.ofNat 7)]) = true := by decide +kernel
theorem e0_8 : isT ((calls fns 6).call 85 [.int (.ofNat 8)]) = true := by decide +kernel
theorem e0_9 : isT ((calls fns 6).call 85 [.int (.ofNat 9)]) = true := by decide +kernel
theorem e1_1 : isT ((calls fns 6).call 86 [.int (.ofNat 1)]) = true := by decide +kernel
theorem e1_2 : isT ((calls fns 6).call 86 [.int (.ofNat 2)]) = true := by decide +kernel
theorem e1_3 : isT ((calls fns 6).call 86 [.int (.ofNat 3)]) = true := by decide +kernel
theorem e1_4 : isT ((calls fns 6).call 86 [.int (.ofNat 4)]) = true := by decide +kernel
theorem e1_5 : isT ((calls fns 6).call 86 [.int (.ofNat 5)]) = true := by decide +kernel
theorem e1_6 : isT ((calls fns 6).call 86 [.int (.ofNat 6)]) = true := by decide +kernel
theorem e1_7 : isT ((calls fns 6).call 86 [.int (.ofNat 7)]) = true := by decide +kernel
theorem e1_8 : isT ((calls fns 6).call 86 [.int (.ofNat 8)]) = true := by decide +kernel
theorem e1_9 : isT ((calls fns 6).call 86 [.int (.ofNat 9)]) = true := by decide +kernel
theorem e2_1 : isT ((calls fns 6).call 87 [.int (.ofNat 1)]) = true := by decide +kernel
theorem e2_2 : isT ((calls fns 6).call 87 [.int (.ofNat 2)]) = true := by decide +kernel
theorem e2_3 : isT ((calls fns 6).call 87 [.int (.ofNat 3)]) = true := by decide +kernel
theorem e2_4 : isT ((calls fns 6).call 87 [.int (.ofNat 4)]) = true := by decide +kernel
theorem e2_5 : isT ((calls fns 6).call 87 [.int (.ofNat 5)]) = true := by decide +kernel
theorem e2_6 : isT ((calls fns 6).call 87 [.int (.ofNat 6)]) = true := by decide +kernel
theorem e2_7 : isT ((calls fns 6).call 87 [.int (.ofNat 7)]) = true := by decide +kernel
theorem e2_8 : isT ((calls fns 6).call 87 [.int (.ofNat 8)]) = true := by decide +kernel
theorem e2_9 : isT ((calls fns 6).call 87 [.int (.ofNat 9)]) = true := by decide +kernel
end T
namespace T
open PySem PySem.Spec PyProof.Rows L2 PySem.W Rf
def nm0 : List Str := ["moved_bounds", "are_moves", "told_moves", "told_gap", "kept_behind", "keep_ranks", "is_ranking", "hours_kept", "keeps_on", "told_keeping", "keep_circle", "late_lot", "told_sequence", "ahead_lot", "surely_ahead", "ahead_pairs", "fewest_ahead", "are_fuels", "is_fuel_bar", "fuel_bar", "heats_to_end", "told_fuels", "is_ascending", "hands_at", "told_shifts", "fewest_hands", "told_apart", "kneading_hours", "too_close", "told_kneading"]
def nm1 : List Str := ["are_halves", "enemies_of", "told_halves", "odd_ring", "too_many", "told_spread", "told_cut", "cut_mirror", "most_uncut", "count_uncut", "told_portion", "rack_three", "rack_crowd", "rack_deeds", "told_racks", "rising_trays", "told_clash", "common_weights", "erring_at", "fewest_erring", "possible_weights", "surely_erring", "probe_clash", "least_from", "greatest_from", "heat_bounds", "told_heat_course", "slides_of", "behind_slides", "slid_to_rest"]
def nm2 : List Str := ["told_rest", "slide_tally", "rests_by", "fits_into", "outer_tables", "fewest_outer", "told_nests", "are_unfit", "told_unfit", "place_behind", "told_turns", "turn_bar", "told_starts", "is_wait_way", "wait_length", "is_wait_chain", "longest_to", "least_wait_way", "wait_ring", "told_chain", "_law_cell", "_law_draws", "_law_is_integer", "_law_is", "_law_take", "_law_waited_fine", "_law_handed_fine", "_law_heated_fine", "law"]
def names : List Str := nm0 ++ nm1 ++ nm2
def fz : List Str := ["_law_handed_fine", "rack_crowd", "rack_three", "rack_deeds"]
def imp : List Str := ["combinations", "gcd"]
theorem hn : fn.map (·.name) = names := by kernel_rfl
theorem hq : (fn.all fun d => decide (d.qual = d.name) && plainA d.params) = true := by kernel_rfl
theorem cmp : fn.map (fun d => kFn fz names [] imp (stm d)) = fns.map optB := by kernel_rfl
def rest : List S := [.for_ (.nm 2) (.walk (.bin .add false (.ofIt false false (.rng2 (.bin .add false (.var 1) (.lit (.int 1))) (.lit (.int 10)))) (.ofIt false false (.rng2 (.lit (.int 1)) (.bin .add false (.var 1) (.lit (.int 1))))))) [.ifs (.cmp .isnot (.call 85 [.var 2]) (.lit (.bl true))) [.ret (.lit (.bl false))] [], .ifs (.not_ (.tru (.prim .all1 false [.lst false [.call 86 [.var 2], .call 87 [.var 2]]]))) [.ret (.lit (.bl false))] []], .ret (.lit (.bl true))]
def cl : Calls := ⟨fun k ds => match ds with
  | [.int (.ofNat n)] => (match Nat.ble 85 k && Nat.ble k 87 && Nat.ble 1 n && Nat.ble n 9 with
    | true => some (.bl true)
    | false => none)
  | _ => none, fun _ _ _ => none⟩
theorem tab (k n : Nat) (h1 : 85 ≤ k) (h2 : k ≤ 87) (h3 : 1 ≤ n) (h4 : n ≤ 9) : isT ((calls fns 6).call k [.int (.ofNat n)]) = true := by
  have hk : k = 85 ∨ k = 86 ∨ k = 87 := by omega
  have hn : n = 1 ∨ n = 2 ∨ n = 3 ∨ n = 4 ∨ n = 5 ∨ n = 6 ∨ n = 7 ∨ n = 8 ∨ n = 9 := by omega
  rcases hk with rfl | rfl | rfl <;> rcases hn with rfl | rfl | rfl | rfl | rfl | rfl | rfl | rfl | rfl
  · exact e0_1
  · exact e0_2
  · exact e0_3
  · exact e0_4
  · exact e0_5
  · exact e0_6
  · exact e0_7
  · exact e0_8
  · exact e0_9
  · exact e1_1
  · exact e1_2
  · exact e1_3
  · exact e1_4
  · exact e1_5
  · exact e1_6
  · exact e1_7
  · exact e1_8
  · exact e1_9
  · exact e2_1
  · exact e2_2
  · exact e2_3
  · exact e2_4
  · exact e2_5
  · exact e2_6
  · exact e2_7
  · exact e2_8
  · exact e2_9
theorem hcl : ∀ i ds r, cl.call i ds = some r → (calls fns 6).call i ds = some r := by
  intro i ds r h
  simp only [cl] at h
  split at h
  · rename_i n
    split at h
    · rename_i hb
      cases h
      simp only [Bool.and_eq_true] at hb
      exact isT_ok (tab i n (Nat.le_of_ble_eq_true hb.1.1.1) (Nat.le_of_ble_eq_true hb.1.1.2) (Nat.le_of_ble_eq_true hb.1.2) (Nat.le_of_ble_eq_true hb.2))
    · cases h
  · cases h
theorem hev (r : Nat) (hr : r < 9) : (rets (exs cl rest [.un, .d (.int r), .un] [])).map (·.1) = some (.bl true) := by
  have h : r = 0 ∨ r = 1 ∨ r = 2 ∨ r = 3 ∨ r = 4 ∨ r = 5 ∨ r = 6 ∨ r = 7 ∨ r = 8 := by omega
  rcases h with rfl | rfl | rfl | rfl | rfl | rfl | rfl | rfl | rfl <;> kernel_rfl
theorem hv1 : ∀ x ∈ blts, (x, none) ∈ vs := by decide +kernel
def lawE := law_end (l := PySem.Challenge.rw_breadward_k37_whole_points_of_the_bakeho) (names := names) (imp := imp) (fz := fz) (fns := fns) (fn := fn) (vs := vs) (rest' := rest) (cl := cl) (D := 6) (iC := 80) (iD := 81) (iT := 84) (iL := 88)
  hn hq cmp hv1 (fun h => by first | (exact absurd h (by decide +kernel)) | decide +kernel) (fun h => by first | (exact absurd h (by decide +kernel)) | decide +kernel) (by kernel_rfl) (by kernel_rfl) (by kernel_rfl) (by kernel_rfl) (by kernel_rfl) (by kernel_rfl) (by kernel_rfl) (by kernel_rfl)
  (hand_ok (iE := 31) (iL := 88) (e3 := e3) hn hq hv1 (by kernel_rfl) (by kernel_rfl) (by kernel_rfl) (by kernel_rfl) (by kernel_rfl)) hcl hev
end T
open PySem PySem.W PySem.Calls PyProof.Rows
theorem PySem.Challenge.cw_breadward_k37_whole_points_of_the_bakeho_holds : PySem.Challenge.rw_breadward_k37_whole_points_of_the_bakeho.Holds := by
  w_on; o_law
  refine HandSHeadRun.head_imp (r := OpenLaw.row PySem.Challenge.rw_breadward_k37_whole_points_of_the_bakeho) (q := view (OpenLaw.row PySem.Challenge.rw_breadward_k37_whole_points_of_the_bakeho).prog [0, 1, 104]) (H := T.hk) (ob := T.ob) (M := 30000) (loose := T.loose) (d := HandSHeadRun.topDef (OpenLaw.row PySem.Challenge.rw_breadward_k37_whole_points_of_the_bakeho).prog 104) (kwd := []) T.ob_eq T.run
    (by kernel_rfl) (by kernel_rfl) (by kernel_rfl) (by rfl) (by first | assumption | decide +kernel) (by decide +kernel) ⟨rfl, rfl, rfl, rfl, rfl, by decide +kernel⟩ ?hw ?hc
  case hw => w_witness2
  case hc =>
    refine Rf.walk_T (l := PySem.Challenge.rw_breadward_k37_whole_points_of_the_bakeho) (n := 63) (k := 4 * 6 + 8) (x := "script") rfl (by decide) (by kernel_rfl) ⟨rfl, by decide, by decide⟩ ?F
    intro w mg fa h K0 K L SY G hmg0
    have hmg : mg ("law" : PySem.Str) = some (.ref fa) := by
      have e : (HandSHeadRun.topDef (OpenLaw.row PySem.Challenge.rw_breadward_k37_whole_points_of_the_bakeho).prog 104).name = ("law" : PySem.Str) := by kernel_rfl
      rw [← e]
      exact hmg0
    exact T.lawE w mg fa h K0 K L SY G hmg
