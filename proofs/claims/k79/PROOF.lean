import PyProof.Rows.All
import Wide.All
import OpenK.AllK
import Wide.FinOn
import HandS.ForMost
import HandS.Deep
import HandS.TupAny
import HandS.Flow
import HandS.Style
import HandS.IsInst
import HandS.Zip
import HandS.Slots
import HandS.Codes
import HandS.Star
import HandS.Strs
import HandS.SetFor
import HandS.WideBits
import HandS.WideMore
import HandS.Wide
import HandS.Defaults
import HandS.Lambda
import HandS.EndTab
import HandS.RaiseMore
import HandS.TryMany
import HandS.ExcOwn
import HandS.ExcIs
import HandS.HeadHook1
import HandS.HeadHook2
import HandS.HeadEnd
import HandS.Head0
import HandS.Head1
import HandS.Head2
import KE.KeyNested
import KE.KDictKeyed
import KE.KNestM
import KE.KIndexOf
import PyProof.SeqIndex
import KE.GoesEnum
import HandS.Iter
import HandS.NamedTupSort
import HandS.More
import PyProof.WalkInts
import KE.KDictCopyH
import HandS.Conv
import HandS.SortInts
import HandS.WordsDict
import HandS.TupLen
import HandS.DictComp
import HandS.TryOnly
import HandS.TupLe
import PyProof.ReprRoads
import HandS.EndBits
import PySem.Challenge.RW_rimtrees_k79_errors_of_the_judge
set_option Elab.async false
set_option linter.all false
set_option maxRecDepth 100000
set_option maxHeartbeats 2000000
/-! What is looked at behind a top: its names, its defs, its constants, its classes with slots. -/
namespace Gn
open PySem PySem.Spec PyProof.Rows L2

/-- a value: data as a tree; ref: an object of the engine's heap, by its number -/
inductive T where
  | non | bl (b : Bool) | int (i : Int) | str (x : Str) | tup (ts : List T) | ref (i : Nat)
  /-- a tuple of ints, known to bear no dict of its own -/
  | tz (is : List Int)

mutual
def valB (lk : Addr → Option Obj) : T → Value → Bool
  | .non, u => (match u with | .none => true | _ => false)
  | .bl b, u => (match u with | .bool c => b == c | _ => false)
  | .int i, u => (match u with | .int j _ => decide (i = j) | _ => false)
  | .str x, u => (match u with | .str y _ => decide (x = y) | _ => false)
  | .tup ts, u => (match u with
    | .ref a => (match lk a with
      | some o => decide (o.cls = .type "tuple") && (o.dict.isNone && (match o.data with
        | .seq its _ => decide (its.size ≤ sizeLine) && valsB lk ts its.toList
        | _ => false))
      | none => false)
    | _ => false)
  | _, _ => false
def valsB (lk : Addr → Option Obj) : List T → List Value → Bool
  | [], us => (match us with | [] => true | _ => false)
  | t :: ts, us => (match us with
    | u :: us => valB lk t u && valsB lk ts us
    | [] => false)
end
def sInit : Str := "__init__"
def dot : Str := "."
/-- what a name of the module stands for: fn: a def; mk: a def that makes lambdas; con: a constant; cls: a class; any: something -/
inductive Kd where
  | fn (k : Nat) (qual : Str)
  | mk (k : Nat) (qual : Str)
  | con (k : Nat) (t : T)
  | cls
  | any
/-- a class with slots: its name, its slots, its methods (def's name, its number among the methods) -/
structure Cd where
  x : Str
  sl : List Str
  ms : List (Str × Nat)
def hasS (x : Str) : List Str → Bool
  | [] => false
  | y :: ys => decide (y = x) || hasS x ys
def defsOf (l : List Stmt) : List (Str × Stmt) := l.filterMap fun s => match s with
  | .FunctionDef x _ _ [] _ _ _ _ _ _ => some (x, s)
  | _ => none
/-- the classes with slots -/
def clsOf (l : List Stmt) : List (Str × List Str × List (Str × Stmt)) := l.filterMap fun s => match s with
  | .ClassDef x _ _ b _ _ _ _ _ _ _ => match b.filterMap (fun s => match s with
      | .Assign _ (.Tuple es _ _) _ => some (es.filterMap fun e => match e with | .Constant (.str z) _ _ => some z | _ => none)
      | _ => none) with
    | [sl] => some (x, sl, defsOf b)
    | _ => none
  | _ => none
/-- the module's names in the sequence of the text -/
def expOf (mk : List Str) (cons : List (Str × T)) : List Stmt → Nat → Nat → List (Str × Kd)
  | [], _, _ => []
  | s :: r, k, c => match s with
    | .FunctionDef x _ _ _ _ _ _ _ _ _ => (x, bif hasS x mk then .mk k x else .fn k x) :: expOf mk cons r (k + 1) c
    | .ClassDef x _ _ _ _ _ _ _ _ _ _ => (x, .cls) :: expOf mk cons r k c
    | .Assign [.Name x _] _ _ => bif decide (x = "__name__") then expOf mk cons r k c else (match cons[c]? with
      | some q => bif decide (q.1 = x) then (x, .con c q.2) :: expOf mk cons r k (c + 1) else (x, .any) :: expOf mk cons r k c
      | none => (x, .any) :: expOf mk cons r k c)
    | _ => expOf mk cons r k c
def startup : List (Str × Kd) := (["__name__", "__doc__", "__package__", "__loader__", "__spec__", "__annotations__", "__builtins__", "__file__", "__cached__"] : List Str).map fun x => (x, Kd.any)
def fsOf (prog : List Stmt) : List (Str × Str × Stmt) := (defsOf prog).map fun d => (d.1, d.1, d.2)
def msOf (prog : List Stmt) : List (Str × Str × Str × Stmt) := (clsOf prog).flatMap fun c => c.2.2.map fun d => (c.1, d.1, c.1 ++ dot ++ d.1, d.2)
def cdGo : List (Str × List Str × List (Str × Stmt)) → Nat → List Cd
  | [], _ => []
  | c :: r, k => ⟨c.1, c.2.1, c.2.2.zipIdx.map fun d => (d.1.1, k + d.2)⟩ :: cdGo r (k + c.2.2.length)
def cdsOf (prog : List Stmt) : List Cd := cdGo (clsOf prog) 0
/-- objects without the tables of code objects -/
def noTbl (o : Option Obj) : Option Obj := match o with
  | some ⟨_, _, .fields vs, _⟩ => bif Nat.beq vs.size 0 then none else o
  | o => o
def codeB (g : Addr → Option Obj) (c : Value) (q : Str) : Bool := match c with
  | .ref c => (match g c with
    | some ⟨_, _, .fields vs, _⟩ => (match vs.toList with | _ :: .str n _ :: _ => n == q | _ => false)
    | _ => false)
  | _ => false
def fnB (g : Addr → Option Obj) (v : Value) (q : Str) : Bool := match v with
  | .ref f => (match g f with
    | some ⟨_, _, .func fd, _⟩ => (match fd.defaults with | .none => true | _ => false) && codeB g fd.code q
    | _ => false)
  | _ => false
def fnAt (g : Addr → Option Obj) (v : Value) : He.FnW := match v with
  | .ref f => (match g f with
    | some ⟨_, _, .func fd, _⟩ => some (fd.name, fd.qualname, fd.params, fd.body, fd.scope, fd.globals, fd.closure, fd.builtins)
    | _ => none)
  | _ => none
/-- the code object and its empty table -/
def tabB (g : Addr → Option Obj) (v : Value) : Bool := match v with
  | .ref f => (match g f with
    | some ⟨_, _, .func fd, _⟩ => (match fd.code with
      | .ref c => (match g c with
        | some o => (match o.data with
          | .fields vs => (match (vs[11]? : Option Value) with
            | some (.ref P) => PySem.W.codeHdIn [(c, o)] c P && (match g P with
              | some ⟨.none, none, .fields ps, sl⟩ => Nat.beq ps.size 0 && Nat.beq sl.size 0
              | _ => false)
            | _ => false)
          | _ => false)
        | _ => false)
      | _ => false)
    | _ => false)
  | _ => false
def entB (g : Addr → Option Obj) (e : DictEntry) (p : Str × Kd) : Bool :=
  (match e.key with | .str y _ => decide (y = p.1) | _ => false) && (match p.2 with
    | .fn _ q => fnB g e.val q
    | .mk _ q => fnB g e.val q && tabB g e.val
    | .con _ t => valB (fun a => noTbl (g a)) t e.val
    | .cls => (match e.val with | .ref _ => true | _ => false)
    | .any => true)
def entsB (g : Addr → Option Obj) : List DictEntry → List (Str × Kd) → Bool
  | [], [] => true
  | e :: es, p :: ps => entB g e p && entsB g es ps
  | _, _ => false
def fnsAt (g : Addr → Option Obj) : List DictEntry → List (Str × Kd) → List He.FnW
  | e :: es, p :: ps => (match p.2 with
    | .fn _ _ => fnAt g e.val :: fnsAt g es ps
    | .mk _ _ => fnAt g e.val :: fnsAt g es ps
    | _ => fnsAt g es ps)
  | _, _ => []
def gEs (g : Addr → Option Obj) : List DictEntry := match g mainGlobals with
  | some ⟨_, _, .dict es _, _⟩ => es.toList
  | _ => []
/-- the addresses that the looks at the classes cl come to -/
def spG (g : Addr → Option Obj) (cl : List Str) : List Addr := mainGlobals :: cl.flatMap fun x => match (gEs g).find? (·.key.isStr x) with
  | some e => (match e.val with
    | .ref C => C :: (match g C with
      | some ⟨_, _, .cls cd, _⟩ => cd.ns :: (match g cd.ns with
        | some ⟨_, _, .dict es _, _⟩ => es.toList.flatMap fun e => He.refV e.val
        | _ => [])
      | _ => [])
    | _ => [])
  | none => []
def KG (g : Addr → Option Obj) (n : Nat) (sp : List Addr) : PySem.W.Frag := He.frG (fun a => noTbl (g a)) (sp ++ List.range n)
/-! ### classes with slots -/
def sclB (K : PySem.W.Frag) (A : Addr) : Bool := PySem.W.plainGet K A Str.empty && (PySem.W.isClsIn K A && (PySem.W.plainOver K A && He.eqO (PySem.W.findIn K (.ref A) "__setattr__") (some (some (.builtin "object.__setattr__")))))
def slotB (K : PySem.W.Frag) (A : Addr) (f : Str) (p : Addr) (i : Nat) : Bool :=
  He.eqO (PySem.W.findIn K (.ref A) f) (some (some (.ref p))) && (He.eqO (PySem.W.specialIn K (.ref p) "__get__") (some (some (.builtin "member_descriptor.__get__"))) && (decide (PySem.W.takesIn K (.ref p) = some true) && (decide (PySem.W.typeIn K (.ref p) = some (.type "member_descriptor")) && (decide (PySem.W.slotIn K p A = some i) && decide (i < 1000)))))
def cdB (K : PySem.W.Frag) (g : Addr → Option Obj) (c : Cd) : Bool :=
  sclB K (He.ga K c.x) && (c.sl.zipIdx.all (fun f => slotB K (He.ga K c.x) f.1 (He.ma K (He.ga K c.x) f.1) f.2) && (c.ms.all (fun m => (He.Fa.meth c.x m.1).ok K && fnB g (.ref (He.ma K (He.ga K c.x) m.1)) (c.x ++ dot ++ m.1)) && (He.Fa.mkr c.x).ok K))
def cdsAt (K : PySem.W.Frag) (g : Addr → Option Obj) (cs : List Cd) : List He.FnW := cs.flatMap fun c => c.ms.map fun m => fnAt g (.ref (He.ma K (He.ga K c.x) m.1))
abbrev AlX : Type := Bool × List He.FnW × List He.FnW
/-- the observation: exp: the module's names; cs: its classes with slots; cl: the classes that are looked at; ck: further looks -/
def obsG (exp : List (Str × Kd)) (cs : List Cd) (cl : List Str) (ck : PySem.W.Frag → Bool) (g : Addr → Option Obj) (n : Nat) : AlX :=
  (entsB g (gEs g) exp && (cs.all (cdB (KG g n (spG g cl)) g) && ck (KG g n (spG g cl))), fnsAt g (gEs g) exp, cdsAt (KG g n (spG g cl)) g cs)
def valW (q : Str × Str × Stmt) : He.FnW := some (q.1, q.2.1, C8.fnArgs q.2.2, .stmts (C8.fnBody q.2.2), C8.fnScope q.2.2, mainGlobals, [], builtinsNs)
def hookX (exp : List (Str × Kd)) (cs : List Cd) (cl : List Str) (ck : PySem.W.Frag → Bool) (fs ms : List (Str × Str × Stmt)) : PySem.W.Hook where
  α := AlX
  obs := fun s => obsG exp cs cl ck s.heap.get? s.heap.objs.size
  val := fun _ => (true, fs.map valW, ms.map valW)
  says := fun _ h => ∃ (g : Addr → Option Obj) (n : Nat), (∀ a o, g a = some o → h.get? a = some o) ∧ (∀ a, n ≤ a → g a = none) ∧ obsG exp cs cl ck g n = (true, fs.map valW, ms.map valW)
  of := fun _ s e => ⟨s.heap.get?, s.heap.objs.size, fun _ _ q => q, fun a ha => Heap.get?_none_of_le ha, e⟩
  keeps := fun _ _ _ ⟨g, n, h1, h2, h3⟩ k => ⟨g, n, fun a o q => k a o (h1 a o q), h2, h3⟩
def obT (exp : List (Str × Kd)) (cs : List Cd) (cl : List Str) (ck : PySem.W.Frag → Bool) (s : PySem.W.SharedT) : AlX := obsG exp cs cl ck (HandSHeadRun.getT s) s.n
theorem obT_eq {exp : List (Str × Kd)} {cs : List Cd} {cl : List Str} {ck : PySem.W.Frag → Bool} {fs ms : List (Str × Str × Stmt)} (s : PySem.W.SharedT) : obT exp cs cl ck s = (hookX exp cs cl ck fs ms).obs s.abs := by
  have e : HandSHeadRun.getT s = s.abs.heap.get? := funext (HandSHeadRun.getT_eq s)
  have e2 : s.n = s.abs.heap.objs.size := (PySem.W.absHeap_size s.tree s.n s.life).symm
  unfold obT
  rw [e, e2]
  rfl
/-! ### what follows from it -/
theorem frG_get {g : Addr → Option Obj} {a : Addr} : ∀ {as : List Addr}, a ∈ as → (He.frG g as).lookup a = g a
  | b :: r, h => by
    unfold He.frG
    by_cases e : a = b
    · subst e
      cases hb : g a with
      | none =>
        rw [List.filterMap_cons, hb]
        show (He.frG g r).lookup a = none
        cases q : (He.frG g r).lookup a with
        | none => rfl
        | some o => rw [He.frG_at r q] at hb; cases hb
      | some o =>
        rw [List.filterMap_cons, hb]
        show List.lookup a ((a, o) :: He.frG g r) = some o
        rw [List.lookup_cons, beq_self_eq_true]
    · have h' : a ∈ r := (List.mem_cons.mp h).resolve_left e
      have ih := frG_get (g := g) h'
      cases hb : g b with
      | none => rw [List.filterMap_cons, hb]; exact ih
      | some o =>
        rw [List.filterMap_cons, hb]
        show List.lookup a ((b, o) :: He.frG g r) = g a
        rw [List.lookup_cons, beq_eq_false_iff_ne.mpr e]
        exact ih
theorem noTbl_some {o : Option Obj} {u : Obj} (h : noTbl o = some u) : o = some u := by
  unfold noTbl at h
  split at h
  · rename_i vs _
    cases hb : Nat.beq vs.size 0 with
    | true => rw [hb] at h; cases h
    | false => rw [hb] at h; exact h
  · exact h
theorem KG_get {g : Addr → Option Obj} {n : Nat} {sp : List Addr} (hn : ∀ a, n ≤ a → g a = none) (a : Addr) : (KG g n sp).lookup a = noTbl (g a) := by
  by_cases h : a ∈ sp ++ List.range n
  · exact frG_get h
  · have : n ≤ a := by
      rw [List.mem_append, not_or, List.mem_range] at h
      omega
    rw [hn a this]
    cases q : (KG g n sp).lookup a with
    | none => rfl
    | some o =>
      have := He.frG_at _ q
      rw [hn a ‹_›] at this
      cases this
theorem KG_in {g : Addr → Option Obj} {n : Nat} {sp : List Addr} {h : Heap} (hg : ∀ a o, g a = some o → h.get? a = some o) : (KG g n sp).In h := fun a o e => hg a o (noTbl_some (He.frG_at _ e))
end Gn
/-! ### the run of a top, its looks one by one -/
namespace Gn
section
open PySem PySem.W PySem.Calls PyProof.Rows
noncomputable abbrev endR (r : OpenRow) (M : Nat) (w : World) (os : OsState) : Option SharedT := HandSHeadRun.endF (HandSHeadRun.stepQ (HandSHeadRun.denQ HandSHeadRun.tabQ) r.prog w) M r.prog w os
theorem run_split {r : OpenRow} {q : Program} {H : Hook} {ob : SharedT → H.α} {M : Nat} {loose : List PySem.Str} {w : World} {nm : List PySem.Str}
    (h1 : ∀ os, (endR r M w os).map (fun s => staticsOk (importedModules r.prog.main.body) (boot_heap w.params) s.abs.heap && (gensDone s.abs && laidKept (boot_heap w.params) s.abs.heap)) = some true)
    (h2 : ∀ os, (endR r M w os).map (fun s => (s.abs.heap.isNs mainGlobals, s.abs.heap.nsKeys mainGlobals)) = some (true, nm))
    (hn : (nm.all fun k => startupNames.contains k || r.prog.boundNames.contains k) = true)
    (h3 : ∀ os, (endR r M w os).map (fun s => HandSHeadRun.seenQ q loose (importedModules r.prog.main.body) (fun s => xlAt q [] s && recOk r.toRowW.records s) s.abs) = some (openGood q loose))
    (h4 : ∀ os, (endR r M w os).map ob = some (H.val w)) : HandSHeadRun.RunEq r q H ob M loose w := fun os => by
  have a1 := h1 os
  have a2 := h2 os
  have a3 := h3 os
  have a4 := h4 os
  show (endR r M w os).map _ = _
  cases e : endR r M w os with
  | none => rw [e] at a1; cases a1
  | some s =>
    rw [e] at a1 a2 a3 a4
    simp only [Option.map_some, Option.some.injEq, Prod.mk.injEq] at a1 a2 a3 a4 ⊢
    refine ⟨?_, a3, a4⟩
    obtain ⟨b1, b2⟩ := Bool.and_eq_true_iff.mp a1
    obtain ⟨b2, b3⟩ := Bool.and_eq_true_iff.mp b2
    have b4 : namesBound r.prog s.abs.heap = true := by
      unfold namesBound
      rw [a2.1, a2.2, hn]; rfl
    show (staticsOk (importedModules r.prog.main.body) (boot_heap w.params) s.abs.heap && namesBound r.prog s.abs.heap && gensDone s.abs && laidKept (boot_heap w.params) s.abs.heap) = true
    rw [b1, b2, b3, b4]; rfl
end
end Gn

set_option maxHeartbeats 0
/-! k79: the program's table of names; the run of its top. -/
namespace Gn
open PySem PySem.Spec PyProof.Rows L2
abbrev P79 : Program := PySem.Challenge.pw_rimtrees_k79_errors_of_the_judge
abbrev pr79 : List Stmt := P79.main.body
def cons79 : List (Str × T) := [
  (("PAIR_SIZE" : Str), Gn.T.int (2)),
  (("MOST_NODES" : Str), Gn.T.int (10)),
  (("MOST_TURNED_turns" : Str), Gn.T.int (7)),
  (("MOST_CLASS" : Str), Gn.T.int (2000)),
  (("MOST_STEPS" : Str), Gn.T.int (1000)),
  (("LED" : Str), Gn.T.str "led"),
  (("NOT_LED" : Str), Gn.T.str "not led"),
  (("MOST_TIES" : Str), Gn.T.int (14)),
  (("ONE_RIM" : Str), Gn.T.str "one rim"),
  (("MORE_RIMS" : Str), Gn.T.str "more rims"),
  (("MOST_CHORDS" : Str), Gn.T.int (8)),
  (("MOST_ROW" : Str), Gn.T.int (1000)),
  (("TWICE" : Str), Gn.T.int (2)),
  (("CHORDS" : Str), Gn.T.str "chords"),
  (("NO_CHORDS" : Str), Gn.T.str "no chords"),
  (("THREE" : Str), Gn.T.tup [Gn.T.tup [Gn.T.int (6), Gn.T.tup [Gn.T.tup [Gn.T.int (0), Gn.T.int (1)], Gn.T.tup [Gn.T.int (0), Gn.T.int (4)], Gn.T.tup [Gn.T.int (0), Gn.T.int (5)], Gn.T.tup [Gn.T.int (1), Gn.T.int (2)], Gn.T.tup [Gn.T.int (1), Gn.T.int (5)], Gn.T.tup [Gn.T.int (2), Gn.T.int (3)], Gn.T.tup [Gn.T.int (2), Gn.T.int (5)], Gn.T.tup [Gn.T.int (3), Gn.T.int (4)], Gn.T.tup [Gn.T.int (3), Gn.T.int (5)], Gn.T.tup [Gn.T.int (4), Gn.T.int (5)]]], Gn.T.tup [Gn.T.int (8), Gn.T.tup [Gn.T.tup [Gn.T.int (0), Gn.T.int (1)], Gn.T.tup [Gn.T.int (0), Gn.T.int (6)], Gn.T.tup [Gn.T.int (0), Gn.T.int (7)], Gn.T.tup [Gn.T.int (1), Gn.T.int (2)], Gn.T.tup [Gn.T.int (1), Gn.T.int (7)], Gn.T.tup [Gn.T.int (2), Gn.T.int (3)], Gn.T.tup [Gn.T.int (2), Gn.T.int (7)], Gn.T.tup [Gn.T.int (3), Gn.T.int (4)], Gn.T.tup [Gn.T.int (3), Gn.T.int (7)], Gn.T.tup [Gn.T.int (4), Gn.T.int (5)], Gn.T.tup [Gn.T.int (4), Gn.T.int (7)], Gn.T.tup [Gn.T.int (5), Gn.T.int (6)], Gn.T.tup [Gn.T.int (5), Gn.T.int (7)], Gn.T.tup [Gn.T.int (6), Gn.T.int (7)]]], Gn.T.tup [Gn.T.int (7), Gn.T.tup [Gn.T.tup [Gn.T.int (0), Gn.T.int (1)], Gn.T.tup [Gn.T.int (0), Gn.T.int (5)], Gn.T.tup [Gn.T.int (0), Gn.T.int (6)], Gn.T.tup [Gn.T.int (1), Gn.T.int (2)], Gn.T.tup [Gn.T.int (2), Gn.T.int (3)], Gn.T.tup [Gn.T.int (2), Gn.T.int (6)], Gn.T.tup [Gn.T.int (3), Gn.T.int (4)], Gn.T.tup [Gn.T.int (4), Gn.T.int (5)], Gn.T.tup [Gn.T.int (4), Gn.T.int (6)]]]]),
  (("MOST_TURNED_turns2" : Str), Gn.T.int (8)),
  (("MOST_TIES_TURNED" : Str), Gn.T.int (8)),
  (("TURN_OF" : Str), Gn.T.str "turn of"),
  (("NO_TURN" : Str), Gn.T.str "no turn"),
  (("MOST_PAIRS" : Str), Gn.T.int (14)),
  (("HANDLES" : Str), Gn.T.str "handles"),
  (("FEWER" : Str), Gn.T.str "fewer"),
  (("MOST_THINGS" : Str), Gn.T.int (8)),
  (("PAPER_SIZE" : Str), Gn.T.int (3)),
  (("EVEN" : Str), Gn.T.str "even system"),
  (("BARRED" : Str), Gn.T.str "barred"),
  (("BEST" : Str), Gn.T.str "best"),
  (("BETTER" : Str), Gn.T.str "better"),
  (("BY_A_GRAPH" : Str), Gn.T.str "by a graph"),
  (("BY_NO_GRAPH" : Str), Gn.T.str "by no graph"),
  (("MOST_ROWS" : Str), Gn.T.int (12)),
  (("UNIT" : Str), Gn.T.str "unit"),
  (("BAD_PART" : Str), Gn.T.str "bad part"),
  (("LEAST_ROUND" : Str), Gn.T.int (3)),
  (("FLAT_TURN" : Str), Gn.T.str "flat turn"),
  (("ODD_ROUND" : Str), Gn.T.str "odd round"),
  (("ALIKE" : Str), Gn.T.str "alike"),
  (("UNLIKE" : Str), Gn.T.str "unlike"),
  (("KINDS" : Str), Gn.T.tup [Gn.T.str "one rim", Gn.T.str "more rims", Gn.T.str "flat turn", Gn.T.str "odd round", Gn.T.str "turn of", Gn.T.str "no turn", Gn.T.str "alike", Gn.T.str "unlike", Gn.T.str "unit", Gn.T.str "bad part", Gn.T.str "even system", Gn.T.str "barred", Gn.T.str "by a graph", Gn.T.str "by no graph", Gn.T.str "best", Gn.T.str "better", Gn.T.str "led", Gn.T.str "not led", Gn.T.str "chords", Gn.T.str "no chords", Gn.T.str "handles", Gn.T.str "fewer"])]
def mk79 : List Str := ["_law_right"]
def exp79 : List (Str × Kd) := startup ++ expOf mk79 cons79 pr79 0 0
def cs79 : List Cd := cdsOf pr79
def fs79 : List (Str × Str × Stmt) := fsOf pr79
def ms79 : List (Str × Str × Str × Stmt) := msOf pr79
def cl79 : List Str := ["RimError", "InvalidClaim", "Growing", "Sides"]
def veB : List Value := [.type "ValueError", .type "Exception", .type "BaseException", .type "object"]
/-- what is asked of the exception -/
def ck79 (K : PySem.W.Frag) : Bool :=
  PySem.W.excIn K (He.ga K "InvalidClaim") veB "ValueError.__new__" && (PySem.W.keepIn K (.ref (He.ga K "InvalidClaim")) && (decide (PySem.W.subIn K (.ref (He.ga K "InvalidClaim")) (.type "BaseException") = some true) && (decide (PySem.W.typeIn K (.ref (He.ga K "InvalidClaim")) = some (.type "type")) &&
    decide (PySem.W.exmOne K (.ref (He.ga K "InvalidClaim")) (.ref (He.ga K "InvalidClaim")) = some true))))
def hm79 : List (Str × Str × Stmt) := ms79.map fun q => (q.2.1, q.2.2.1, q.2.2.2)
abbrev hk79 : PySem.W.Hook := hookX exp79 cs79 cl79 ck79 fs79 hm79
abbrev ob79 : PySem.W.SharedT → AlX := obT exp79 cs79 cl79 ck79
end Gn

namespace Gn
open PySem PySem.W PySem.Calls PyProof.Rows
abbrev R79 : PySem.W.OpenRow := PySem.W.OpenLaw.row PySem.Challenge.rw_rimtrees_k79_errors_of_the_judge
def loose79 : List PySem.Str := (P79.main.scope.names.map (·.1)).filter fun x => !hasS x ["__name__", "law"]
abbrev q79 := PySem.W.view R79.prog [229]
def nm79 : List PySem.Str := exp79.map (·.1)
theorem run79a (w : World) (os : OsState) : (endR R79 7200 w os).map (fun s => staticsOk (importedModules R79.prog.main.body) (boot_heap w.params) s.abs.heap && (gensDone s.abs && laidKept (boot_heap w.params) s.abs.heap)) = some true := by
  kernel_rfl
theorem run79b (w : World) (os : OsState) : (endR R79 7200 w os).map (fun s => (s.abs.heap.isNs mainGlobals, s.abs.heap.nsKeys mainGlobals)) = some (true, nm79) := by
  kernel_rfl
theorem run79c (w : World) (os : OsState) : (endR R79 7200 w os).map (fun s => HandSHeadRun.seenQ q79 loose79 (importedModules R79.prog.main.body) (fun s => xlAt q79 [] s && recOk R79.toRowW.records s) s.abs) = some (openGood q79 loose79) := by
  kernel_rfl
theorem run79d (w : World) (os : OsState) : (endR R79 7200 w os).map ob79 = some (hk79.val w) := by
  kernel_rfl
theorem nm79_ok : (nm79.all fun k => startupNames.contains k || R79.prog.boundNames.contains k) = true := by
  decide +kernel
end Gn

namespace Gn
open PySem PySem.W PySem.Calls PyProof.Rows
theorem tabs79 : R79.prog.tablesWhole = true := by decide +kernel
theorem bare79 : R79.prog.bare := ⟨rfl, rfl, rfl, rfl, rfl, tabs79⟩
theorem of79 (H : R79.wellSaid = true → R79.Holds) : PySem.Challenge.rw_rimtrees_k79_errors_of_the_judge.Holds := by
  w_on; o_law
  exact H (by assumption)
end Gn

/-! The engine, part 1: values as trees, the engine's heap, how both stand in the abstract heap of the hand layer. -/
namespace Gn
open PySem PySem.Spec PyProof.Rows L2

mutual
def T.flat : T → Bool
  | .ref _ => false
  | .tup ts => T.flatL ts
  | _ => true
def T.flatL : List T → Bool
  | [] => true
  | t :: ts => t.flat && T.flatL ts
end

/-- an object of the engine's heap -/
inductive MO where
  | lst (ts : List T)
  /-- a dict by ints and texts; by tuples; one that is being walked -/
  | dk (kvs : List (Key × T))
  | dn (kvs : List (NestedKey × T × T))
  | lk (kvs : List (Key × T))
  /-- an object of a class with slots, by the class's name -/
  | obj (c : Str) (fs : List (Option T))

abbrev Hi := List MO
abbrev Sg := List (Option T)

/-! ### how a tree stands in the abstract heap -/
section
variable (K : PySem.W.Frag) (H : Hp) (ι : List Addr)
mutual
inductive Rep : T → V → Prop
  | non : Rep .non .non
  | bl (b : Bool) : Rep (.bl b) (.bl b)
  | int (i : Int) : Rep (.int i) (.int i)
  | str (x : Str) : Rep (.str x) (.str x)
  | tup {a : Addr} {xs : List V} {ts : List T} : SqT K H a xs → RepL ts xs → Rep (.tup ts) (.ref a)
  | ref {i : Nat} {a : Addr} : ι[i]? = some a → Rep (.ref i) (.ref a)
  | tz {a : Addr} {o : Obj} {is : List Int} : H a = some (.frz o (.tup (is.map V.int))) → o.dict = none → Rep (.tz is) (.ref a)
inductive RepL : List T → List V → Prop
  | nil : RepL [] []
  | cons {t : T} {v : V} {ts : List T} {vs : List V} : Rep t v → RepL ts vs → RepL (t :: ts) (v :: vs)
end
end

section
variable {K : PySem.W.Frag} {H H' : Hp} {ι ι' : List Addr}
theorem RepL.length : ∀ {ts : List T} {vs : List V}, RepL K H ι ts vs → vs.length = ts.length
  | [], _, h => by cases h; rfl
  | t :: ts, _, h => by
    cases h with
    | cons _ h2 => simp [RepL.length h2]
theorem RepL.get : ∀ {ts : List T} {vs : List V} {i : Nat} {t : T}, RepL K H ι ts vs → ts[i]? = some t → ∃ v, vs[i]? = some v ∧ Rep K H ι t v
  | [], _, _, _, h, e => by simp at e
  | t :: ts, _, 0, _, h, e => by
    cases h with
    | cons h1 _ => simp at e; subst e; exact ⟨_, rfl, h1⟩
  | t :: ts, _, i + 1, _, h, e => by
    cases h with
    | cons _ h2 =>
      obtain ⟨v, e1, r⟩ := RepL.get (i := i) h2 (by simpa using e)
      exact ⟨v, by simpa using e1, r⟩
theorem RepL.getV : ∀ {ts : List T} {vs : List V} {i : Nat} {v : V}, RepL K H ι ts vs → vs[i]? = some v → ∃ t, ts[i]? = some t ∧ Rep K H ι t v
  | [], _, _, _, h, e => by cases h; simp at e
  | t :: ts, _, 0, _, h, e => by
    cases h with
    | cons h1 _ => simp at e; subst e; exact ⟨_, rfl, h1⟩
  | t :: ts, _, i + 1, _, h, e => by
    cases h with
    | cons _ h2 =>
      obtain ⟨v, e1, r⟩ := RepL.getV (i := i) h2 (by simpa using e)
      exact ⟨v, by simpa using e1, r⟩
theorem RepL.append : ∀ {ts us : List T} {vs ws : List V}, RepL K H ι ts vs → RepL K H ι us ws → RepL K H ι (ts ++ us) (vs ++ ws)
  | [], _, _, _, h, h' => by cases h; exact h'
  | t :: ts, _, _, _, h, h' => by
    cases h with
    | cons h1 h2 => exact .cons h1 (RepL.append h2 h')
theorem RepL.take : ∀ {ts : List T} {vs : List V} (n : Nat), RepL K H ι ts vs → RepL K H ι (ts.take n) (vs.take n)
  | _, _, 0, _ => .nil
  | [], _, n + 1, h => by cases h; exact .nil
  | t :: ts, _, n + 1, h => by
    cases h with
    | cons h1 h2 => exact .cons h1 (RepL.take n h2)
theorem RepL.drop : ∀ {ts : List T} {vs : List V} (n : Nat), RepL K H ι ts vs → RepL K H ι (ts.drop n) (vs.drop n)
  | _, _, 0, h => h
  | [], _, n + 1, h => by cases h; exact .nil
  | t :: ts, _, n + 1, h => by
    cases h with
    | cons h1 h2 => exact RepL.drop n h2
theorem RepL.reverse : ∀ {ts : List T} {vs : List V}, RepL K H ι ts vs → RepL K H ι ts.reverse vs.reverse
  | [], _, h => by cases h; exact .nil
  | t :: ts, _, h => by
    cases h with
    | cons h1 h2 =>
      rw [List.reverse_cons, List.reverse_cons]
      exact RepL.append (RepL.reverse h2) (.cons h1 .nil)
theorem RepL.set : ∀ {ts : List T} {vs : List V} (i : Nat) {t : T} {v : V}, RepL K H ι ts vs → Rep K H ι t v → RepL K H ι (ts.set i t) (vs.set i v)
  | [], _, _, _, _, h, _ => by cases h; exact .nil
  | _ :: ts, _, 0, _, _, h, r => by
    cases h with
    | cons _ h2 => exact .cons r h2
  | _ :: ts, _, i + 1, _, _, h, r => by
    cases h with
    | cons h1 h2 => exact .cons h1 (RepL.set i h2 r)
theorem RepL.eraseIdx : ∀ {ts : List T} {vs : List V} (i : Nat), RepL K H ι ts vs → RepL K H ι (ts.eraseIdx i) (vs.eraseIdx i)
  | [], _, _, h => by cases h; exact .nil
  | _ :: ts, _, 0, h => by
    cases h with
    | cons _ h2 => exact h2
  | _ :: ts, _, i + 1, h => by
    cases h with
    | cons h1 h2 => exact .cons h1 (RepL.eraseIdx i h2)

/-- tuples and known objects stay -/
structure KeepT (K : PySem.W.Frag) (H H' : Hp) : Prop where
  sq : ∀ a xs, SqT K H a xs → SqT K H' a xs
  fz : ∀ b o xs, H b = some (.frz o (.tup xs)) → H' b = some (.frz o (.tup xs))
/-- what carries a tree over: tuples stay, the numbers stay -/
theorem Rep.at_ (ht : KeepT K H H') (hi : ∀ (i : Nat) (a : Addr), ι[i]? = some a → ι'[i]? = some a) :
    ∀ {t : T} {v : V}, Rep K H ι t v → Rep K H' ι' t v := fun {t v} h => by
  refine Rep.rec (K := K) (H := H) (ι := ι) (motive_1 := fun t v _ => Rep K H' ι' t v) (motive_2 := fun ts vs _ => RepL K H' ι' ts vs) ?_ ?_ ?_ ?_ ?_ ?_ ?_ ?_ ?_ h
  · exact .non
  · exact fun b => .bl b
  · exact fun i => .int i
  · exact fun x => .str x
  · exact fun s _ r => .tup (ht.sq _ _ s) r
  · exact fun e => .ref (hi _ _ e)
  · exact fun e d => .tz (ht.fz _ _ _ e) d
  · exact .nil
  · exact fun _ _ r rs => .cons r rs
theorem RepL.at_ (ht : KeepT K H H') (hi : ∀ (i : Nat) (a : Addr), ι[i]? = some a → ι'[i]? = some a) :
    ∀ {ts : List T} {vs : List V}, RepL K H ι ts vs → RepL K H' ι' ts vs
  | [], _, h => by cases h; exact .nil
  | t :: ts, _, h => by
    cases h with
    | cons h1 h2 => exact .cons (h1.at_ ht hi) (RepL.at_ ht hi h2)
end

/-! ### keys -/
def mapO {α β : Type} (f : α → Option β) : List α → Option (List β)
  | [] => some []
  | a :: as => match f a with
    | some b => match mapO f as with
      | some bs => some (b :: bs)
      | none => none
    | none => none
/-- a tree as a key of any depth up to n -/
def T.nk : Nat → T → Option NestedKey
  | 0, _ => none
  | n + 1, t => match t with
    | .non => some .none
    | .bl b => some (.num (if b = true then 1 else 0))
    | .int i => some (.num i)
    | .str x => some (.text x)
    | .tup ts => match mapO (T.nk n) ts with
      | some ks => some (.tup ks)
      | none => none
    | .ref _ => none
    | .tz _ => none
def T.keyN : T → Option NestedKey
  | .tup ts => T.nk 8 (.tup ts)
  | _ => none

/-! ### the engine's heap in the abstract heap -/
/-- what the model is told by -/
structure Tx where
  P : Program
  w : World
  K : PySem.W.Frag
  mg : Str → Option Value
abbrev _root_.L2.Cx.tx (X : Cx) : Tx := ⟨X.prog, X.w, X.K, X.mg⟩
/-- the pairs of a dict -/
def RepK {κ : Type} (K : PySem.W.Frag) (H : Hp) (ι : List Addr) : List (κ × T) → List (κ × V) → Prop :=
  Paired fun p q => p.1 = q.1 ∧ Rep K H ι p.2 q.2
theorem RepK.at_ {κ : Type} {K : PySem.W.Frag} {H H' : Hp} {ι ι' : List Addr} (ht : KeepT K H H') (hi : ∀ (i : Nat) (a : Addr), ι[i]? = some a → ι'[i]? = some a)
    {kvs : List (κ × T)} {ws : List (κ × V)} (r : RepK K H ι kvs ws) : RepK K H' ι' kvs ws :=
  Paired.mapP r fun _ _ z => ⟨z.1, z.2.at_ ht hi⟩
/-- a dict by tuples, by its entries -/
def DNo (C : Tx) (a : Addr) (xs : List (NestedKey × Addr × Value)) : HO := .ext fun h => ∃ o es ep, h.get? a = some o ∧ o.ExactDict ∧ o.data = .dict es ep ∧ es.toList = xs.map (entryOfKey (nestedKind C.P C.w))
def RepN (K : PySem.W.Frag) (H : Hp) (ι : List Addr) : List (NestedKey × T × T) → List (NestedKey × Addr × Value) → Prop :=
  Paired fun p x => p.1 = x.1 ∧ T.keyN p.2.1 = some p.1 ∧ Rep K H ι p.2.1 (.ref x.2.1) ∧ ∃ v, RelV v x.2.2 ∧ Rep K H ι p.2.2 v
theorem RepN.at_ {K : PySem.W.Frag} {H H' : Hp} {ι ι' : List Addr} (ht : KeepT K H H') (hi : ∀ (i : Nat) (a : Addr), ι[i]? = some a → ι'[i]? = some a)
    {kvs : List (NestedKey × T × T)} {ws : List (NestedKey × Addr × Value)} (r : RepN K H ι kvs ws) : RepN K H' ι' kvs ws :=
  Paired.mapP r fun _ _ ⟨z1, z2, z3, v, z4, z5⟩ => ⟨z1, z2, z3.at_ ht hi, v, z4, z5.at_ ht hi⟩
/-- the slots of an object -/
def RepO (K : PySem.W.Frag) (H : Hp) (ι : List Addr) (fs : List (Option T)) (ws : List (Option V)) : Prop := ∀ (i : Nat) (t : T), fs[i]? = some (some t) → ∃ v, ws[i]? = some (some v) ∧ Rep K H ι t v
theorem RepO.at_ {K : PySem.W.Frag} {H H' : Hp} {ι ι' : List Addr} (ht : KeepT K H H') (hi : ∀ (i : Nat) (a : Addr), ι[i]? = some a → ι'[i]? = some a)
    {fs : List (Option T)} {ws : List (Option V)} (r : RepO K H ι fs ws) : RepO K H' ι' fs ws := fun i t e => let ⟨v, e1, q⟩ := r i t e; ⟨v, e1, q.at_ ht hi⟩
/-- what stands at the address of an engine's object -/
def MOk (C : Tx) (H : Hp) (ι : List Addr) (a : Addr) : MO → Prop
  | .lst ts => ∃ vs, H a = some (.lst vs) ∧ RepL C.K H ι ts vs
  | .dk kvs => ∃ ws, H a = some (.dK ws) ∧ RepK C.K H ι kvs ws
  | .dn kvs => ∃ xs, H a = some (DNo C a xs) ∧ (a == sysModules) = false ∧ (xs.map (·.1)).Nodup ∧ RepN C.K H ι kvs xs
  | .lk kvs => ∃ ob ws, H a = some (.frz ob (.dK ws)) ∧ RepK C.K H ι kvs ws
  | .obj x fs => ∃ A dx ws, C.mg x = some (.ref A) ∧ H a = some (SlX.SlO a A dx ws) ∧ H dx = some (.xd []) ∧ dx ≠ a ∧ RepO C.K H ι fs ws
structure SR (C : Tx) (ι : List Addr) (h : Hi) (H : Hp) : Prop where
  len : ι.length = h.length
  nd : ι.Nodup
  ok : ∀ (i : Nat) (a : Addr) (o : MO), ι[i]? = some a → h[i]? = some o → MOk C H ι a o
/-- from one state of the heaps to a later one -/
structure To (C : Tx) (ι : List Addr) (H : Hp) (ι' : List Addr) (h' : Hi) (H' : Hp) : Prop where
  ext : ∃ more, ι' = ι ++ more ∧ ∀ a ∈ more, H a = none
  keep : ∀ b o, H b = some o → b ∉ ι → H' b = some o
  frz : ∀ b o u, H b = some (.frz o u) → H' b = some (.frz o u)
  sr : SR C ι' h' H'
section
variable {C : Tx} {H H1 H2 H' : Hp} {ι ι1 ι2 ι' : List Addr} {h h1 h2 h' : Hi}
theorem MOk.look {a : Addr} {o : MO} (m : MOk C H ι a o) : ∃ u, H a = some u ∧ (∀ xs, u ≠ .tup xs) ∧ (∀ ob xs, u ≠ .frz ob (.tup xs)) ∧ ∀ ps, u ≠ .xd ps := by
  cases o with
  | lst ts => obtain ⟨vs, e, _⟩ := m; exact ⟨_, e, (fun _ z => nomatch z), (fun _ _ z => nomatch z), (fun _ z => nomatch z)⟩
  | dk kvs => obtain ⟨vs, e, _⟩ := m; exact ⟨_, e, (fun _ z => nomatch z), (fun _ _ z => nomatch z), (fun _ z => nomatch z)⟩
  | dn kvs => obtain ⟨vs, e, _⟩ := m; exact ⟨_, e, (fun _ z => nomatch z), (fun _ _ z => nomatch z), (fun _ z => nomatch z)⟩
  | lk kvs => obtain ⟨ob, vs, e, _⟩ := m; exact ⟨_, e, (fun _ z => nomatch z), (fun _ _ z => nomatch z), (fun _ z => nomatch z)⟩
  | obj x fs => obtain ⟨A, dx, ws, _, e, _⟩ := m; exact ⟨_, e, (fun _ z => nomatch z), (fun _ _ z => nomatch z), (fun _ z => nomatch z)⟩
theorem MOk.notXd {a : Addr} {o : MO} {ps : List (Str × V)} (m : MOk C H ι a o) : H a ≠ some (.xd ps) := by
  intro r
  obtain ⟨u, e, _, _, n⟩ := m.look
  rw [e] at r; exact n _ (Option.some.inj r)
theorem MOk.notTup {a : Addr} {o : MO} {xs : List V} (m : MOk C H ι a o) : ¬ Rd H a (.tup xs) := by
  intro r
  obtain ⟨u, e, n1, n2, _⟩ := m.look
  rcases r with r | ⟨ob, r⟩
  · rw [e] at r; exact n1 _ (Option.some.inj r)
  · rw [e] at r; exact n2 _ _ (Option.some.inj r)
theorem SR.get (s : SR C ι h H) {a : Addr} (ha : a ∈ ι) : ∃ (i : Nat) (o : MO), ι[i]? = some a ∧ h[i]? = some o := by
  obtain ⟨i, hi, e⟩ := List.getElem_of_mem ha
  have hl : i < h.length := by rw [← s.len]; exact hi
  exact ⟨i, h[i], by rw [List.getElem?_eq_getElem hi, e], List.getElem?_eq_getElem hl⟩
theorem SR.there (s : SR C ι h H) {a : Addr} (ha : a ∈ ι) : ∃ o, H a = some o := by
  obtain ⟨i, o, e1, e2⟩ := s.get ha
  obtain ⟨u, e, _⟩ := (s.ok i a o e1 e2).look
  exact ⟨u, e⟩
theorem SR.tup_out (s : SR C ι h H) {a : Addr} {xs : List V} (r : Rd H a (.tup xs)) : a ∉ ι := fun ha => by
  obtain ⟨i, o, e1, e2⟩ := s.get ha
  exact (s.ok i a o e1 e2).notTup r
theorem SR.addr (s : SR C ι h H) {i : Nat} {o : MO} (e : h[i]? = some o) : ∃ a, ι[i]? = some a := by
  have hl : i < ι.length := by rw [s.len]; exact (List.getElem?_eq_some_iff.mp e).1
  exact ⟨ι[i], List.getElem?_eq_getElem hl⟩
theorem To.refl (s : SR C ι h H) : To C ι H ι h H := ⟨⟨[], by simp, by simp⟩, fun _ _ e _ => e, fun _ _ _ e => e, s⟩
theorem To.trans (a : To C ι H ι1 h1 H1) (b : To C ι1 H1 ι2 h2 H2) : To C ι H ι2 h2 H2 := by
  obtain ⟨m1, e1, f1⟩ := a.ext
  obtain ⟨m2, e2, f2⟩ := b.ext
  refine ⟨⟨m1 ++ m2, by rw [e2, e1, List.append_assoc], fun c hc => ?_⟩, fun c o e hn => ?_, fun c o u e => b.frz c o u (a.frz c o u e), b.sr⟩
  · rcases List.mem_append.mp hc with hc | hc
    · exact f1 c hc
    · cases q : H c with
      | none => rfl
      | some o =>
        exfalso
        by_cases hn : c ∈ ι
        · have nd := b.sr.nd
          rw [e2, e1, List.append_assoc] at nd
          exact (List.nodup_append.mp nd).2.2 c hn c (List.mem_append_right _ hc) rfl
        · have := a.keep c o q hn
          rw [f2 c hc] at this; cases this
  · refine b.keep c o (a.keep c o e hn) fun hm => ?_
    rw [e1] at hm
    rcases List.mem_append.mp hm with hm | hm
    · exact hn hm
    · rw [f1 c hm] at e; cases e
theorem To.tups (s : SR C ι h H) (a : To C ι H ι1 h1 H1) : ∀ b xs, SqT C.K H b xs → SqT C.K H1 b xs := fun b xs q => by
  rcases q with q | q
  · have hn := s.tup_out q
    rcases q with q | ⟨ob, q⟩
    · exact .inl (.inl (a.keep b _ q hn))
    · exact .inl (.inr ⟨ob, a.keep b _ q hn⟩)
  · exact .inr q
theorem To.ids (a : To C ι H ι1 h1 H1) : ∀ (i : Nat) (b : Addr), ι[i]? = some b → ι1[i]? = some b := fun i b e => by
  obtain ⟨m, e1, _⟩ := a.ext
  rw [e1, List.getElem?_append_left (List.getElem?_eq_some_iff.mp e).1]
  exact e
theorem To.kt (s : SR C ι h H) (a : To C ι H ι1 h1 H1) : KeepT C.K H H1 := ⟨a.tups s, fun b o xs => a.frz b o _⟩
theorem To.rep (s : SR C ι h H) (a : To C ι H ι1 h1 H1) {t : T} {v : V} (r : Rep C.K H ι t v) : Rep C.K H1 ι1 t v := r.at_ (a.kt s) a.ids
theorem To.repL (s : SR C ι h H) (a : To C ι H ι1 h1 H1) {ts : List T} {vs : List V} (r : RepL C.K H ι ts vs) : RepL C.K H1 ι1 ts vs := r.at_ (a.kt s) a.ids
end
/-! ### keys in the model's heap -/
section
variable {X : Cx} {pins : List (Addr × Obj)} {σ : L2.St} {H : Hp} {s : Shared} {ι : List Addr}
theorem nk_is (I : Inv X pins σ H s) : ∀ (n : Nat) (t : T) (k : NestedKey) (v : V) (u : Value), T.nk n t = some k → Rep X.K H ι t v → RelV v u → NestedIs s.heap k u ∧ k.depth ≤ n := by
  intro n
  induction n with
  | zero => intro t k v u e; cases e
  | succ n ih =>
    have all : ∀ (ts : List T) (ks : List NestedKey) (vs : List V) (us : List Value), mapO (T.nk n) ts = some ks → RepL X.K H ι ts vs → Vals vs us → NestedAll s.heap ks us ∧ NestedKey.depthAll ks ≤ n := by
      intro ts
      induction ts with
      | nil =>
        intro ks vs us e r rv
        cases r; cases rv
        simp [mapO] at e; subst e
        exact ⟨.nil, Nat.zero_le _⟩
      | cons t ts iht =>
        intro ks vs us e r rv
        cases r with
        | cons r1 r2 =>
          cases rv with
          | cons v1 v2 =>
            unfold mapO at e
            cases e1 : T.nk n t with
            | none => rw [e1] at e; cases e
            | some k =>
              rw [e1] at e
              cases e2 : mapO (T.nk n) ts with
              | none => rw [e2] at e; cases e
              | some ks' =>
                rw [e2] at e; cases e
                obtain ⟨q1, d1⟩ := ih t k _ _ e1 r1 v1
                obtain ⟨q2, d2⟩ := iht _ _ _ e2 r2 v2
                exact ⟨.cons q1 q2, by unfold NestedKey.depthAll; exact Nat.max_le.mpr ⟨d1, d2⟩⟩
    intro t k v u e r rv
    cases t with
    | non => cases r; cases e; cases rv; exact ⟨.none, Nat.zero_le _⟩
    | bl b => cases r; cases e; cases rv; exact ⟨.bool rfl, Nat.zero_le _⟩
    | int i => cases r; cases e; obtain ⟨t, rfl⟩ := rv; exact ⟨.int _ _, Nat.zero_le _⟩
    | str x => cases r; cases e; obtain ⟨t, rfl⟩ := rv; exact ⟨.text _ _, Nat.zero_le _⟩
    | tup ts =>
      cases r with
      | tup st rl =>
        cases rv
        unfold T.nk at e
        simp only at e
        split at e
        · rename_i ks ek
          cases e
          obtain ⟨its, rvs, ⟨o, ho, hc, m, hd⟩, _⟩ := I.tuple st
          obtain ⟨q, d⟩ := all ts ks _ _ ek rl rvs
          exact ⟨.tup ho hc hd (by simpa using q), by unfold NestedKey.depth; omega⟩
        · cases e
    | ref i => cases e
    | tz i => cases e
theorem keyN_is (I : Inv X pins σ H s) {t : T} {k : NestedKey} {v : V} {u : Value} (e : T.keyN t = some k) (r : Rep X.K H ι t v) (rv : RelV v u) : ∃ b, v = .ref b ∧ u = .ref b ∧ (nestedKind X.prog X.w).is s.heap k b := by
  cases t with
  | tup ts =>
    cases r with
    | tup st rl =>
      cases rv
      exact ⟨_, rfl, rfl, nk_is I 8 (.tup ts) k _ _ e (.tup st rl) rfl⟩
  | _ => cases e
/-- the dict of an engine's object -/
theorem dn_of (I : Inv X pins σ H s) {a : Addr} {xs : List (NestedKey × Addr × Value)} {kvs : List (NestedKey × T × T)} (e : H a = some (DNo X.tx a xs)) (nd : (xs.map (·.1)).Nodup) (r : RepN X.K H ι kvs xs) :
    s.heap.DictOfH (nestedKind X.prog X.w) a xs := by
  obtain ⟨⟨o, es, ep, h1, h2, h3, h4⟩, _, _⟩ := (show ObjOk X.prog X.w H s.heap a (DNo X.tx a xs) from I.hok a _ e)
  refine ⟨o, es, ep, h1, h2, h3, h4, fun x hx => ?_, nd⟩
  have all : ∀ {l : List (NestedKey × T × T)} {m : List (NestedKey × Addr × Value)}, RepN X.K H ι l m → ∀ x ∈ m, (nestedKind X.prog X.w).is s.heap x.1 x.2.1 := by
    intro l m q
    induction q with
    | nil => intro x hx; cases hx
    | cons hz _ ih =>
      intro x hx
      rcases List.mem_cons.mp hx with rfl | hx
      · obtain ⟨z1, z2, z3, _⟩ := hz
        obtain ⟨b, e1, e2, q⟩ := keyN_is I z2 z3 rfl
        cases e2
        rw [← z1]; exact q
      · exact ih x hx
  exact all r x hx
end
end Gn

/-! The engine, part 2: the compact form and its interpreter. -/
namespace Gn
open PySem PySem.Spec PyProof.Rows L2

/-! ### helpers -/
/-- a tree as data (lists of the heap read) to the depth n -/
def T.toD (h : Hi) : Nat → T → Option PyData
  | 0, _ => none
  | n + 1, t => match t with
    | .non => some .none
    | .bl b => some (.bool b)
    | .int i => some (.int i)
    | .str x => some (.str x)
    | .tup ts => match mapO (T.toD h n) ts with
      | some ds => some (.tuple ds)
      | none => none
    | .tz _ => none
    | .ref i => match h[i]? with
      | some (.lst ts) => match mapO (T.toD h n) ts with
        | some ds => some (.list ds)
        | none => none
      | _ => none
def dn : Nat := 40
def T.toS (h : Hi) (t : T) : Option PyData := match T.toD h dn t with
  | some d => bif SeqAt.shaped d then some d else none
  | none => none
def mapI : List T → Option (List Int)
  | [] => some []
  | .int i :: ts => match mapI ts with
    | some is => some (i :: is)
    | none => none
  | _ :: _ => none
def mapB : List T → Option (List Bool)
  | [] => some []
  | .bl b :: ts => match mapB ts with
    | some bs => some (b :: bs)
    | none => none
  | _ :: _ => none
def small (n : Nat) : Bool := Nat.ble n 1000000

/-! ### operators -/
def absLt (i : Int) (k : Nat) : Bool := Nat.blt i.natAbs k
def addT (x y : T) (h : Hi) : Option (T × Hi) := match x, y with
  | .int i, .int j => some (.int (i + j), h)
  | .str a, .str b => bif small (a.length + b.length) then some (.str (a ++ b), h) else none
  | .tup as, .tup bs => bif small (as.length + bs.length) then some (.tup (as ++ bs), h) else none
  | .ref a, .ref b => match h[a]?, h[b]? with
    | some (.lst as), some (.lst bs) => bif small (as.length + bs.length) then some (.ref h.length, h ++ [.lst (as ++ bs)]) else none
    | _, _ => none
  | _, _ => none
def mulT (x y : T) (h : Hi) : Option (T × Hi) := match x, y with
  | .int i, .int j => bif (absLt i (2 ^ 64) || absLt j (2 ^ 64)) then some (.int (i * j), h) else none
  | .ref a, .int j => match h[a]? with
    | some (.lst as) => bif small (as.length * j.toNat) && absLt j (2 ^ 20) then some (.ref h.length, h ++ [.lst (List.replicate j.toNat as).flatten]) else none
    | _ => none
  | _, _ => none
def int2 (f : Int → Int → Option Int) (x y : T) (h : Hi) : Option (T × Hi) := match x, y with
  | .int i, .int j => match f i j with
    | some k => some (.int k, h)
    | none => none
  | _, _ => none
def binT (op : Operator) (x y : T) (h : Hi) : Option (T × Hi) := match op with
  | .Add => addT x y h
  | .Sub => int2 (fun i j => some (i - j)) x y h
  | .Mult => mulT x y h
  | .FloorDiv => int2 (fun i j => bif decide (0 < j) && absLt j 1073741824 then some (i / j) else none) x y h
  | .Mod => int2 (fun i j => bif decide (0 < j) then some (i % j) else none) x y h
  | .Pow => int2 (fun i j => bif decide (0 ≤ j) && absLt j 1000000 && absLt i (2 ^ 64) then some (i ^ j.toNat) else none) x y h
  | .LShift => int2 (fun i j => bif decide (0 ≤ j) && absLt j 1000000 && absLt i (2 ^ 64) then some (i * 2 ^ j.toNat) else none) x y h
  | .RShift => int2 (fun i j => bif decide (0 ≤ j) then some (i / 2 ^ j.toNat) else none) x y h
  | .BitAnd => int2 (fun i j => some (Builtin.bitAnd i j)) x y h
  | .BitOr => int2 (fun i j => some (Builtin.bitOr i j)) x y h
  | .BitXor => int2 (fun i j => some (Builtin.bitXor i j)) x y h
  | _ => none
def ltT (x y : T) : Option Bool := match x, y with
  | .int i, .int j => some (decide (i < j))
  | .str a, .str b => some (decide (a.cps.toList < b.cps.toList))
  | .tup as, .tup bs => match mapI as, mapI bs with
    | some ns, some ms => some (HT.lexLt ns ms)
    | _, _ => none
  | _, _ => none
def le2 (f : Int → Int → Bool) (x y : T) : Option Bool := match x, y with
  | .int i, .int j => some (f i j)
  | _, _ => none
/-- the keys of dicts -/
def T.key : T → Option Key
  | .int i => some (.inl i)
  | .str x => some (.inr x)
  | _ => none
def valM {κ β : Type} [DecidableEq κ] (kvs : List (κ × β)) (k : κ) : Option β := match kvs with
  | [] => none
  | (j, v) :: r => if j = k then some v else valM r k
def inT (h : Hi) (x y : T) : Option Bool := match y with
  | .tup ts => match T.toS h x, T.toS h (.tup ts) with
    | some d, some (.tuple ds) => some (ds.any fun z => PyData.eqv z d)
    | _, _ => none
  | .str b => match x with
    | .str a => some (!(Builtin.Str.occurrences b a 0 b.length 1).isEmpty)
    | _ => none
  | .ref i => match h[i]? with
    | some (.lst ts) => match T.toS h x, T.toS h (.ref i) with
      | some d, some (.list ds) => some (ds.any fun z => PyData.eqv z d)
      | _, _ => none
    | some (.dk kvs) => match x.key with
      | some k => some (valM kvs k).isSome
      | none => none
    | some (.dn kvs) => match x.keyN with
      | some k => some (valM kvs k).isSome
      | none => none
    | some (.lk kvs) => match x.key with
      | some k => some (valM kvs k).isSome
      | none => none
    | _ => none
  | _ => none
def notO : Option Bool → Option Bool
  | some b => some (!b)
  | none => none
def isT (x y : T) : Option Bool := match y with
  | .non => match x with
    | .non => some true
    | _ => some false
  | .bl b => match x with
    | .bl a => some (decide (a = b))
    | _ => none
  | _ => none
def eqT (x y : T) (h : Hi) : Option Bool := match T.toS h x, T.toS h y with
  | some d, some e => some (PyData.eqv d e)
  | _, _ => match x, y with
    | .tup (_ :: _), .tup [] => some false
    | _, _ => none
def cmpT (op : CmpOp) (x y : T) (h : Hi) : Option Bool := match op with
  | .Eq => eqT x y h
  | .NotEq => match T.toS h x, T.toS h y with
    | some d, some e => some (!PyData.eqv d e)
    | _, _ => none
  | .Lt => ltT x y
  | .LtE => le2 (fun i j => decide (i ≤ j)) x y
  | .Gt => le2 (fun i j => decide (j < i)) x y
  | .GtE => le2 (fun i j => decide (j ≤ i)) x y
  | .In => inT h x y
  | .NotIn => notO (inT h x y)
  | .Is => isT x y
  | .IsNot => notO (isT x y)
def unT (op : UnaryOp) (x : T) : Option T := match op, x with
  | .USub, .int i => some (.int (-i))
  | .Invert, .int i => some (.int (Builtin.bitNot i))
  | _, _ => none
/-- the truth of a value -/
def truT (h : Hi) : T → Option Bool
  | .non => some false
  | .bl b => some b
  | .int i => some (i != 0)
  | .str x => bif small x.length then some ((x.length : Int) != 0) else none
  | .tup ts => some (!ts.isEmpty)
  | .tz _ => none
  | .ref i => match h[i]? with
    | some (.lst ts) => some (!ts.isEmpty)
    | some (.dk kvs) => some (!kvs.isEmpty)
    | _ => none
end Gn

set_option maxHeartbeats 1000000
/-! The engine, part 3: operators are right. -/
namespace Gn
open PySem PySem.Spec PyProof.Rows L2

/-- what is wanted of a value behind a step from (ι, h, H) -/
abbrev PV (C : Tx) (ι : List Addr) (H : Hp) (t : T) (h' : Hi) (Q : VK) : Prop := ∀ ι' H' v, To C ι H ι' h' H' → Rep C.K H' ι' t v → Q v H'

theorem small_ok {n : Nat} (h : small n = true) : n ≤ sizeLine := by
  have h1 : n ≤ 1000000 := Nat.le_of_ble_eq_true h
  rw [sizeLine_eq]; omega
theorem absLt_ok {i : Int} {k : Nat} (h : absLt i k = true) : -(k : Int) < i ∧ i < k := by
  have h1 : i.natAbs < k := Nat.blt_eq.mp h
  omega

section
variable {K : PySem.W.Frag} {C : Tx} {H : Hp} {ι : List Addr} {h : Hi}
theorem SR.fresh_out (s : SR C ι h H) {p : Addr} (hp : H p = none) : p ∉ ι := fun hm => by
  obtain ⟨o, e⟩ := s.there hm
  rw [hp] at e; cases e
theorem upd_keep {p : Addr} {o : HO} (hp : H p = none) : ∀ b u, H b = some u → upd H p o b = some u := fun b u e => by
  rw [upd_ne (ne_of_none e hp)]; exact e
theorem sqT_upd {p : Addr} {o : HO} (hp : H p = none) {a : Addr} {xs : List V} (r : SqT C.K H a xs) : SqT C.K (upd H p o) a xs := by
  rcases r with (r | ⟨ob, r⟩) | r
  · exact .inl (.inl (upd_keep hp _ _ r))
  · exact .inl (.inr ⟨ob, upd_keep hp _ _ r⟩)
  · exact .inr r
theorem keepT_upd {p : Addr} {o : HO} (hp : H p = none) : KeepT C.K H (upd H p o) := ⟨fun _ _ q => sqT_upd hp q, fun b _ _ e => upd_keep hp b _ e⟩
theorem ids_more {more : List Addr} : ∀ (i : Nat) (a : Addr), ι[i]? = some a → (ι ++ more)[i]? = some a := fun i a e => by
  rw [List.getElem?_append_left (List.getElem?_eq_some_iff.mp e).1]; exact e
theorem SR.not_xd (s : SR C ι h H) {a : Addr} {ps : List (Str × V)} (ha : a ∈ ι) : H a ≠ some (.xd ps) := by
  obtain ⟨i, o, e1, e2⟩ := s.get ha
  exact (s.ok i a o e1 e2).notXd
/-- an object that stays -/
theorem MOk.at_ {C : Tx} {H H' : Hp} {ι ι' : List Addr} {a : Addr} {o : MO} (m : MOk C H ι a o) (e : H' a = H a) (hx : ∀ b ps, H b = some (.xd ps) → H' b = some (.xd ps)) (ht : KeepT C.K H H')
    (hi : ∀ (i : Nat) (a : Addr), ι[i]? = some a → ι'[i]? = some a) : MOk C H' ι' a o := by
  cases o with
  | lst ts => obtain ⟨vs, q, r⟩ := m; exact ⟨vs, by rw [e]; exact q, r.at_ ht hi⟩
  | dk kvs => obtain ⟨vs, q, r⟩ := m; exact ⟨vs, by rw [e]; exact q, r.at_ ht hi⟩
  | dn kvs => obtain ⟨vs, q, n1, n2, r⟩ := m; exact ⟨vs, by rw [e]; exact q, n1, n2, r.at_ ht hi⟩
  | lk kvs => obtain ⟨ob, vs, q, r⟩ := m; exact ⟨ob, vs, by rw [e]; exact q, r.at_ ht hi⟩
  | obj x fs => obtain ⟨A, dx, ws, q1, q2, q3, q4, r⟩ := m; exact ⟨A, dx, ws, q1, by rw [e]; exact q2, hx _ _ q3, q4, r.at_ ht hi⟩
/-- a new object, the engine's own -/
theorem To.new (s : SR C ι h H) {p : Addr} {o : HO} {mo : MO} (hp : H p = none) (m : MOk C (upd H p o) (ι ++ [p]) p mo) : To C ι H (ι ++ [p]) (h ++ [mo]) (upd H p o) := by
  have hn := s.fresh_out hp
  refine ⟨⟨[p], rfl, fun a ha => by simp at ha; subst ha; exact hp⟩, fun b u e _ => upd_keep hp b u e, fun b _ _ e => upd_keep hp b _ e, ⟨by simp [s.len], ?_, fun i a o' e1 e2 => ?_⟩⟩
  · rw [List.nodup_append]
    exact ⟨s.nd, by simp, fun a ha b hb z => by simp at hb; subst hb; subst z; exact hn ha⟩
  · by_cases hi : i < ι.length
    · rw [List.getElem?_append_left hi] at e1
      rw [List.getElem?_append_left (by rw [← s.len]; exact hi)] at e2
      have ha : a ∈ ι := List.mem_of_getElem? e1
      exact (s.ok i a o' e1 e2).at_ (upd_ne fun z => hn (z ▸ ha)) (fun b ps e => upd_keep hp b _ e) (keepT_upd hp) ids_more
    · have hl : i < (ι ++ [p]).length := (List.getElem?_eq_some_iff.mp e1).1
      have hi2 : i = ι.length := by simp at hl; omega
      subst hi2
      simp at e1
      rw [show ι.length = h.length from s.len] at e2
      simp at e2
      subst e1 e2
      exact m
theorem rep_new (s : SR C ι h H) {p : Addr} {H' : Hp} : Rep C.K H' (ι ++ [p]) (.ref h.length) (.ref p) := .ref (by rw [← s.len]; simp)
/-- a new tuple -/
theorem To.tup (s : SR C ι h H) {p : Addr} {xs : List V} (hp : H p = none) : To C ι H ι h (upd H p (.tup xs)) := by
  have hn := s.fresh_out hp
  refine ⟨⟨[], by simp, by simp⟩, fun b u e _ => upd_keep hp b u e, fun b _ _ e => upd_keep hp b _ e, ⟨s.len, s.nd, fun i a o' e1 e2 => ?_⟩⟩
  have ha : a ∈ ι := List.mem_of_getElem? e1
  exact (s.ok i a o' e1 e2).at_ (upd_ne fun z => hn (z ▸ ha)) (fun b ps e => upd_keep hp b _ e) (keepT_upd hp) fun _ _ e => e
theorem rep_tup {p : Addr} {ts : List T} {xs : List V} (hp : H p = none) (r : RepL C.K H ι ts xs) : Rep C.K (upd H p (.tup xs)) ι (.tup ts) (.ref p) :=
  .tup (.inl (.inl upd_same)) (r.at_ (keepT_upd hp) fun _ _ e => e)
theorem repL_upd {p : Addr} {o : HO} {ts : List T} {xs : List V} {more : List Addr} (hp : H p = none) (r : RepL C.K H ι ts xs) : RepL C.K (upd H p o) (ι ++ more) ts xs := r.at_ (keepT_upd hp) ids_more
theorem To.lst (s : SR C ι h H) {p : Addr} {ts : List T} {xs : List V} (hp : H p = none) (r : RepL C.K H ι ts xs) : To C ι H (ι ++ [p]) (h ++ [.lst ts]) (upd H p (.lst xs)) :=
  To.new s hp ⟨xs, upd_same, repL_upd hp r⟩
/-- an object of the engine's is changed -/
theorem To.set (s : SR C ι h H) {i : Nat} {a : Addr} {o : HO} {mo : MO} (hi : ι[i]? = some a) (m : MOk C (upd H a o) ι a mo) (hr : KeepT C.K H (upd H a o)) (hf : ∀ ob u, H a ≠ some (.frz ob u) := by assumption) :
    To C ι H ι (h.set i mo) (upd H a o) := by
  have ha : a ∈ ι := List.mem_of_getElem? hi
  refine ⟨⟨[], by simp, by simp⟩, fun b u e hn => by rw [upd_ne (show b ≠ a from fun z => hn (by rw [z]; exact ha))]; exact e, fun b ob u e => by rw [upd_ne (show b ≠ a from fun z => hf ob u (by rw [← z]; exact e))]; exact e, ⟨by simp [s.len], s.nd, fun j b o' e1 e2 => ?_⟩⟩
  by_cases hj : j = i
  · subst hj
    rw [hi] at e1
    cases e1
    have hl : j < h.length := by rw [← s.len]; exact (List.getElem?_eq_some_iff.mp hi).1
    rw [List.getElem?_set_self hl] at e2
    cases e2
    exact m
  · rw [List.getElem?_set_ne (Ne.symm hj)] at e2
    have hb : b ≠ a := by
      rintro rfl
      obtain ⟨l1, q1⟩ := List.getElem?_eq_some_iff.mp e1
      obtain ⟨l2, q2⟩ := List.getElem?_eq_some_iff.mp hi
      exact hj ((List.getElem_inj s.nd).mp (q1.trans q2.symm))
    exact (s.ok j b o' e1 e2).at_ (upd_ne hb) (fun c ps e => by
      rw [upd_ne (show c ≠ a from fun z => s.not_xd ha (by rw [← z]; exact e))]; exact e) hr fun _ _ e => e
theorem SR.sqT_set (s : SR C ι h H) {a : Addr} {o : HO} (ha : a ∈ ι) : ∀ b xs, SqT C.K H b xs → SqT C.K (upd H a o) b xs := fun b xs r => by
  rcases r with r | r
  · have hn := s.tup_out r
    have hb : b ≠ a := fun z => hn (z ▸ ha)
    rcases r with r | ⟨ob, r⟩
    · exact .inl (.inl (by rw [upd_ne hb]; exact r))
    · exact .inl (.inr ⟨ob, by rw [upd_ne hb]; exact r⟩)
  · exact .inr r
theorem SR.keepT_set (s : SR C ι h H) {a : Addr} {o : HO} (ha : a ∈ ι) (hf : ∀ ob u, H a ≠ some (.frz ob u)) : KeepT C.K H (upd H a o) :=
  ⟨s.sqT_set ha, fun b ob u e => by rw [upd_ne (show b ≠ a from fun z => hf ob _ (by rw [← z]; exact e))]; exact e⟩
/-- a dict is locked, unlocked -/
theorem To.lock (s : SR C ι h H) {i : Nat} {a : Addr} {od : Obj} {kvs : List (Key × T)} {ws : List (Key × V)} (hi : ι[i]? = some a) (ha : H a = some (.dK ws)) (r : RepK C.K H ι kvs ws) : To C ι H ι (h.set i (.lk kvs)) (upd H a (.frz od (.dK ws))) := by
  have nf : ∀ ob u, H a ≠ some (.frz ob u) := fun ob u q => by rw [ha] at q; cases q
  have kt := s.keepT_set (o := .frz od (.dK ws)) (List.mem_of_getElem? hi) nf
  exact To.set s hi ⟨od, ws, upd_same, r.at_ kt fun _ _ e => e⟩ kt
theorem To.unlock {ι2 : List Addr} {h2 : Hi} {H2 : Hp} (s : SR C ι h H) {i : Nat} {a : Addr} {od : Obj} {kvs : List (Key × T)} {ws : List (Key × V)} (hi : ι[i]? = some a) (ha : H a = some (.dK ws))
    (t : To C ι (upd H a (.frz od (.dK ws))) ι2 h2 H2) (e : h2[i]? = some (.lk kvs)) : H2 a = some (.frz od (.dK ws)) ∧ To C ι H ι2 (h2.set i (.dk kvs)) (upd H2 a (.dK ws)) := by
  have q := t.frz a od _ upd_same
  have hm : a ∈ ι := List.mem_of_getElem? hi
  have hi2 := t.ids _ _ hi
  have sq : ∀ b xs, SqT C.K H2 b xs → SqT C.K (upd H2 a (.dK ws)) b xs := fun b xs r => by
    rcases r with (r | ⟨ob, r⟩) | r
    · exact .inl (.inl (by rw [upd_ne (fun z => by rw [z, q] at r; cases r)]; exact r))
    · exact .inl (.inr ⟨ob, by rw [upd_ne (fun z => by rw [z, q] at r; cases r)]; exact r⟩)
    · exact .inr r
  have kt : KeepT C.K H2 (upd H2 a (.dK ws)) := ⟨sq, fun b o xs r => by rw [upd_ne (fun z => by rw [z, q] at r; cases r)]; exact r⟩
  refine ⟨q, ?_, fun b o e hn => ?_, fun b o u e => ?_, by rw [List.length_set]; exact t.sr.len, t.sr.nd, fun j b o e1 e2 => ?_⟩
  · obtain ⟨more, e1, f⟩ := t.ext
    refine ⟨more, e1, fun b hb => ?_⟩
    have := f b hb
    rw [upd_ne (fun z => by rw [z, upd_same] at this; cases this)] at this
    exact this
  · have hb : b ≠ a := fun z => hn (by rw [z]; exact hm)
    rw [upd_ne hb]
    exact t.keep b o (by rw [upd_ne hb]; exact e) hn
  · have hb : b ≠ a := fun z => by rw [z, ha] at e; cases e
    rw [upd_ne hb]
    exact t.frz b o u (by rw [upd_ne hb]; exact e)
  · by_cases hj : j = i
    · subst hj
      rw [hi2] at e1
      cases e1
      have hl : j < h2.length := by rw [← t.sr.len]; exact (List.getElem?_eq_some_iff.mp hi2).1
      rw [List.getElem?_set_self hl] at e2
      cases e2
      obtain ⟨ob, ws', q', r⟩ := t.sr.ok j _ _ hi2 e
      rw [q] at q'
      cases q'
      exact ⟨ws, upd_same, r.at_ kt fun _ _ e => e⟩
    · rw [List.getElem?_set_ne (Ne.symm hj)] at e2
      have hb : b ≠ a := by
        rintro rfl
        obtain ⟨l1, q1⟩ := List.getElem?_eq_some_iff.mp e1
        obtain ⟨l2, q2⟩ := List.getElem?_eq_some_iff.mp hi2
        exact hj ((List.getElem_inj t.sr.nd).mp (q1.trans q2.symm))
      exact (t.sr.ok j b o e1 e2).at_ (upd_ne hb) (fun c ps r => by rw [upd_ne (fun z => by rw [z, q] at r; cases r)]; exact r) kt fun _ _ e => e
/-- a list of the engine's -/
theorem SR.lst (s : SR C ι h H) {i : Nat} {ts : List T} {v : V} (r : Rep C.K H ι (.ref i) v) (e : h[i]? = some (.lst ts)) : ∃ a vs, v = .ref a ∧ ι[i]? = some a ∧ H a = some (.lst vs) ∧ RepL C.K H ι ts vs := by
  cases r with
  | ref hi =>
    obtain ⟨vs, q, rl⟩ := s.ok i _ _ hi e
    exact ⟨_, vs, rfl, hi, q, rl⟩
theorem SR.dk (s : SR C ι h H) {i : Nat} {kvs : List (Key × T)} {v : V} (r : Rep C.K H ι (.ref i) v) (e : h[i]? = some (.dk kvs)) : ∃ a ws, v = .ref a ∧ ι[i]? = some a ∧ H a = some (.dK ws) ∧ RepK C.K H ι kvs ws := by
  cases r with
  | ref hi =>
    obtain ⟨vs, q, rl⟩ := s.ok i _ _ hi e
    exact ⟨_, vs, rfl, hi, q, rl⟩
theorem SR.dn (s : SR C ι h H) {i : Nat} {kvs : List (NestedKey × T × T)} {v : V} (r : Rep C.K H ι (.ref i) v) (e : h[i]? = some (.dn kvs)) :
    ∃ a xs, v = .ref a ∧ ι[i]? = some a ∧ H a = some (DNo C a xs) ∧ (a == sysModules) = false ∧ (xs.map (·.1)).Nodup ∧ RepN C.K H ι kvs xs := by
  cases r with
  | ref hi =>
    obtain ⟨vs, q, rl⟩ := s.ok i _ _ hi e
    exact ⟨_, vs, rfl, hi, q, rl⟩
theorem SR.lk (s : SR C ι h H) {i : Nat} {kvs : List (Key × T)} {v : V} (r : Rep C.K H ι (.ref i) v) (e : h[i]? = some (.lk kvs)) : ∃ a ob ws, v = .ref a ∧ ι[i]? = some a ∧ H a = some (.frz ob (.dK ws)) ∧ RepK C.K H ι kvs ws := by
  cases r with
  | ref hi =>
    obtain ⟨ob, vs, q, rl⟩ := s.ok i _ _ hi e
    exact ⟨_, ob, vs, rfl, hi, q, rl⟩
theorem Rep.tupE {ts : List T} {v : V} (r : Rep K H ι (.tup ts) v) : ∃ a xs, v = .ref a ∧ SqT K H a xs ∧ RepL K H ι ts xs := by
  cases r with
  | tup s rl => exact ⟨_, _, rfl, s, rl⟩
theorem Rep.intE {i : Int} {v : V} (r : Rep K H ι (.int i) v) : v = .int i := by cases r; rfl
theorem Rep.strE {i : Str} {v : V} (r : Rep K H ι (.str i) v) : v = .str i := by cases r; rfl
theorem Rep.blE {i : Bool} {v : V} (r : Rep K H ι (.bl i) v) : v = .bl i := by cases r; rfl
theorem Rep.nonE {v : V} (r : Rep K H ι .non v) : v = .non := by cases r; rfl

/-! ### data -/
theorem toD_ok (s : SR C ι h H) : ∀ (n : Nat) (t : T) (v : V) (d : PyData), T.toD h n t = some d → Rep C.K H ι t v → Dp C.K H v d := by
  intro n
  induction n with
  | zero => intro t v d e; simp [T.toD] at e
  | succ n ih =>
    have all : ∀ (ts : List T) (vs : List V) (ds : List PyData), mapO (T.toD h n) ts = some ds → RepL C.K H ι ts vs → DpAll C.K H vs ds := by
      intro ts
      induction ts with
      | nil => intro vs ds e r; cases r; simp [mapO] at e; subst e; exact .nil
      | cons t ts iht =>
        intro vs ds e r
        cases r with
        | cons r1 r2 =>
          unfold mapO at e
          cases e1 : T.toD h n t with
          | none => rw [e1] at e; cases e
          | some d =>
            rw [e1] at e
            cases e2 : mapO (T.toD h n) ts with
            | none => rw [e2] at e; cases e
            | some ds' =>
              rw [e2] at e
              cases e
              exact .cons (ih t _ d e1 r1) (iht _ _ e2 r2)
    intro t v d e r
    cases t with
    | non => cases r.nonE; simp [T.toD] at e; subst e; exact .non
    | bl b => cases r.blE; simp [T.toD] at e; subst e; exact .bl b
    | int i => cases r.intE; simp [T.toD] at e; subst e; exact .int i
    | str x => cases r.strE; simp [T.toD] at e; subst e; exact .str x
    | tup ts =>
      obtain ⟨a, xs, rfl, st, rl⟩ := r.tupE
      unfold T.toD at e
      cases e1 : mapO (T.toD h n) ts with
      | none => simp only [e1] at e; cases e
      | some ds => simp only [e1] at e; cases e; exact .tup st (all ts xs ds e1 rl)
    | tz i => unfold T.toD at e; cases e
    | ref i =>
      unfold T.toD at e
      simp only at e
      split at e
      · rename_i ts hts
        obtain ⟨a, vs, rfl, hi, ha, rl⟩ := s.lst r hts
        cases e1 : mapO (T.toD h n) ts with
        | none => rw [e1] at e; cases e
        | some ds => rw [e1] at e; cases e; exact .lst (.inl (.inl ha)) (all ts vs ds e1 rl)
      · cases e
theorem toS_ok (s : SR C ι h H) {t : T} {v : V} {d : PyData} (e : T.toS h t = some d) (r : Rep C.K H ι t v) : Dp C.K H v d ∧ SeqAt.shaped d = true := by
  unfold T.toS at e
  split at e
  · rename_i d' e1
    cases q : SeqAt.shaped d' with
    | true => rw [q] at e; cases e; exact ⟨toD_ok s _ _ _ _ e1 r, q⟩
    | false => rw [q] at e; cases e
  · cases e
theorem mapI_ok : ∀ {ts : List T} {ns : List Int} {vs : List V}, mapI ts = some ns → RepL K H ι ts vs → vs = ns.map V.int
  | [], _, _, e, r => by cases r; simp [mapI] at e; subst e; rfl
  | .int i :: ts, _, _, e, r => by
    cases r with
    | cons r1 r2 =>
      unfold mapI at e
      cases e1 : mapI ts with
      | none => rw [e1] at e; cases e
      | some is =>
        rw [e1] at e; cases e
        rw [r1.intE, mapI_ok e1 r2]; rfl
  | .non :: _, _, _, e, _ => by simp [mapI] at e
  | .bl _ :: _, _, _, e, _ => by simp [mapI] at e
  | .str _ :: _, _, _, e, _ => by simp [mapI] at e
  | .tup _ :: _, _, _, e, _ => by simp [mapI] at e
  | .ref _ :: _, _, _, e, _ => by simp [mapI] at e
  | .tz _ :: _, _, _, e, _ => by simp [mapI] at e
theorem mapB_ok : ∀ {ts : List T} {ns : List Bool} {vs : List V}, mapB ts = some ns → RepL K H ι ts vs → vs = ns.map V.bl
  | [], _, _, e, r => by cases r; simp [mapB] at e; subst e; rfl
  | .bl i :: ts, _, _, e, r => by
    cases r with
    | cons r1 r2 =>
      unfold mapB at e
      cases e1 : mapB ts with
      | none => rw [e1] at e; cases e
      | some is =>
        rw [e1] at e; cases e
        rw [r1.blE, mapB_ok e1 r2]; rfl
  | .non :: _, _, _, e, _ => by simp [mapB] at e
  | .int _ :: _, _, _, e, _ => by simp [mapB] at e
  | .str _ :: _, _, _, e, _ => by simp [mapB] at e
  | .tup _ :: _, _, _, e, _ => by simp [mapB] at e
  | .ref _ :: _, _, _, e, _ => by simp [mapB] at e
  | .tz _ :: _, _, _, e, _ => by simp [mapB] at e
theorem key_ok {t : T} {k : Key} {v : V} (e : t.key = some k) (r : Rep K H ι t v) : v = kV k := by
  cases t <;> simp [T.key] at e
  · subst e; exact r.intE
  · subst e; exact r.strE
theorem valM_ok {κ : Type} [DecidableEq κ] (k : κ) : ∀ {kvs : List (κ × T)} {ws : List (κ × V)}, RepK K H ι kvs ws →
    (valV ws k).isSome = (valM kvs k).isSome ∧ ∀ t, valM kvs k = some t → ∃ v, valV ws k = some v ∧ Rep K H ι t v
  | [], _, r => by cases r; exact ⟨rfl, fun t e => by simp [valM] at e⟩
  | (j, t) :: r, _, rk => by
    cases rk with
    | @cons _ q _ ws h1 h2 =>
      obtain ⟨j', v⟩ := q
      obtain ⟨e1, r1⟩ := h1
      have e1' : j = j' := e1
      subst e1'
      have ih := valM_ok k h2
      by_cases hj : j = k
      · rw [valV_pos (p := (j, v)) hj]
        unfold valM
        rw [if_pos hj]
        exact ⟨rfl, fun t' e => by cases e; exact ⟨v, rfl, r1⟩⟩
      · rw [valV_neg (p := (j, v)) hj]
        unfold valM
        rw [if_neg hj]
        exact ih
theorem valN_ok (k : NestedKey) : ∀ {kvs : List (NestedKey × T × T)} {xs : List (NestedKey × Addr × Value)}, RepN K H ι kvs xs →
    (atKey xs k).isSome = (valM kvs k).isSome ∧ ∀ t, valM kvs k = some t → ∃ p v, atKey xs k = some p ∧ RelV v p.2 ∧ Rep K H ι t.2 v
  | [], _, r => by cases r; exact ⟨rfl, fun t e => by cases e⟩
  | (j, t) :: r, _, rk => by
    cases rk with
    | @cons _ q _ xs h1 h2 =>
      obtain ⟨j', b, u⟩ := q
      obtain ⟨e1, _, _, v, r1, r2⟩ := h1
      have e1' : j = j' := e1
      subst e1'
      have ih := valN_ok k h2
      unfold atKey
      rw [List.find?_cons]
      by_cases hj : j = k
      · have hd : decide (j = k) = true := decide_eq_true hj
        unfold valM
        rw [if_pos hj]
        simp only [hd]
        exact ⟨rfl, fun t' e => by cases e; exact ⟨(b, u), v, rfl, r1, r2⟩⟩
      · have hd : decide (j = k) = false := decide_eq_false hj
        unfold valM
        rw [if_neg hj]
        simp only [hd]
        exact ih
end

/-! ### operators -/
section
variable {X : Cx}
abbrev rBin (C : Tx) (op : Operator) : R2 := fun xv yv H Q => ∃ ι h x y t h', SR C ι h H ∧ Rep C.K H ι x xv ∧ Rep C.K H ι y yv ∧ binT op x y h = some (t, h') ∧ PV C ι H t h' Q
/-- two ints -/
theorem int2_ok {op : Operator} {C : Int → Int → Prop} {g : Int → Int → Int} {f : Int → Int → Option Int} (hr : OpR X (binaryOp op) (rI C fun i j => .int (g i j)))
    (hf : ∀ i j k, f i j = some k → k = g i j ∧ C i j) {pins : List (Addr × Obj)} {s : Shared} {σ : L2.St} {H : Hp} {xv yv : V} {v u : Value} {Q : VK} {ι : List Addr} {h h' : Hi} {x y t : T}
    (I : Inv X pins σ H s) (rv : RelV xv v) (ru : RelV yv u) (sr : SR X.tx ι h H) (rx : Rep X.K H ι x xv) (ry : Rep X.K H ι y yv) (e : int2 f x y h = some (t, h')) (k : PV X.tx ι H t h' Q) :
    wpAny (model X.prog X.w) X.A (binaryOp op v u) (EP X pins σ Q) X.xe s := by
  unfold int2 at e
  split at e
  · rename_i i j
    split at e
    · rename_i k' ek
      cases e
      obtain ⟨rfl, hc⟩ := hf i j k' ek
      exact hr pins s σ H xv yv v u Q I rv ru ⟨i, j, rx.intE, ry.intE, hc, k ι H _ (To.refl sr) (.int _)⟩
    · cases e
  · cases e
theorem bif_some {α : Type} {c : Bool} {a b : α} (e : (bif c then some a else none) = some b) : c = true ∧ a = b := by
  cases c with
  | true => exact ⟨rfl, Option.some.inj e⟩
  | false => cases e
theorem rI_of {f : Value → Value → Sem Value} {g : Int → Int → V} (hr : OpR X f (rI0 g)) : OpR X f (rI (fun _ _ => True) g) := fun pins s σ H x y v u Q I rx ry ⟨i, j, a, b, _, q⟩ => hr pins s σ H x y v u Q I rx ry ⟨i, j, a, b, q⟩
theorem repL_rep {K : PySem.W.Frag} {H : Hp} {ι : List Addr} {ts : List T} {vs : List V} (r : RepL K H ι ts vs) : ∀ n : Nat, RepL K H ι (List.replicate n ts).flatten (List.replicate n vs).flatten
  | 0 => .nil
  | n + 1 => by
    rw [List.replicate_succ, List.replicate_succ, List.flatten_cons, List.flatten_cons]
    exact RepL.append r (repL_rep r n)
theorem bin_ok (op : Operator) : OpR X (binaryOp op) (rBin X.tx op) := by
  intro pins s σ H xv yv v u Q I rv ru ⟨ι, h, x, y, t, h', sr, rx, ry, e, k⟩
  cases op with
  | Add =>
    replace e : addT x y h = some (t, h') := e
    unfold addT at e
    split at e
    · rename_i i j
      cases e
      exact op_add pins s σ H xv yv v u Q I rv ru ⟨i, j, rx.intE, ry.intE, k ι H _ (To.refl sr) (.int _)⟩
    · rename_i a b
      obtain ⟨hs, e⟩ := bif_some e
      cases e
      exact op_add_str pins s σ H xv yv v u Q I rv ru ⟨a, b, rx.strE, ry.strE, small_ok hs, k ι H _ (To.refl sr) (.str _)⟩
    · rename_i as bs
      obtain ⟨hs, e⟩ := bif_some e
      cases e
      obtain ⟨a, xs, rfl, sx, lx⟩ := rx.tupE
      obtain ⟨b, ys, rfl, sy, ly⟩ := ry.tupE
      refine op_catA pins s σ H _ _ v u Q I rv ru ⟨a, b, xs, ys, rfl, rfl, sx, sy, by rw [lx.length, ly.length]; exact small_ok hs, fun ex => ?_, fun _ ey => ?_, fun _ _ p hp => ?_⟩
      · have : as = [] := by cases lx with
          | nil => rfl
          | cons _ _ => cases ex
        subst this
        exact k ι H _ (To.refl sr) (.tup sy ly)
      · have : bs = [] := by cases ly with
          | nil => rfl
          | cons _ _ => cases ey
        subst this
        rw [List.append_nil] at k
        exact k ι H _ (To.refl sr) (.tup sx lx)
      · exact k ι _ _ (To.tup sr hp) (rep_tup hp (RepL.append lx ly))
    · rename_i a b
      split at e
      · rename_i as bs ha hb
        obtain ⟨hs, e⟩ := bif_some e
        cases e
        obtain ⟨p, xs, rfl, hi, hp, lx⟩ := sr.lst rx ha
        obtain ⟨q, ys, rfl, hj, hq, ly⟩ := sr.lst ry hb
        exact op_cat pins s σ H _ _ v u Q I rv ru ⟨p, q, xs, ys, rfl, rfl, hp, hq, by rw [lx.length, ly.length]; exact small_ok hs, fun d hd => k _ _ _ (To.lst sr hd (RepL.append lx ly)) (rep_new sr)⟩
      · cases e
    · cases e
  | Sub => exact int2_ok (rI_of op_sub) (fun i j k e => ⟨(Option.some.inj e).symm, trivial⟩) I rv ru sr rx ry e k
  | Mult =>
    replace e : mulT x y h = some (t, h') := e
    unfold mulT at e
    split at e
    · rename_i i j
      obtain ⟨hs, e⟩ := bif_some e
      cases e
      refine op_mul pins s σ H xv yv v u Q I rv ru ⟨i, j, rx.intE, ry.intE, ?_, k ι H _ (To.refl sr) (.int _)⟩
      rcases Bool.or_eq_true_iff.mp hs with z | z
      · exact .inl (by have := absLt_ok z; omega)
      · exact .inr (by have := absLt_ok z; omega)
    · rename_i a j
      split at e
      · rename_i as ha
        obtain ⟨hs, e⟩ := bif_some e
        cases e
        obtain ⟨hs1, hs2⟩ := Bool.and_eq_true_iff.mp hs
        obtain ⟨p, xs, rfl, hi, hp, lx⟩ := sr.lst rx ha
        have hb := absLt_ok hs2
        exact op_rep pins s σ H _ _ v u Q I rv ru ⟨p, j, xs, rfl, ry.intE, hp, by omega, by omega, by rw [lx.length]; exact small_ok hs1, fun d hd => k _ _ _ (To.lst sr hd (repL_rep lx _)) (rep_new sr)⟩
      · cases e
    · cases e
  | FloorDiv => exact int2_ok op_fdiv (fun i j k e => by
      obtain ⟨hs, e⟩ := bif_some e
      obtain ⟨h1, h2⟩ := Bool.and_eq_true_iff.mp hs
      have h3 := absLt_ok h2
      exact ⟨e.symm, of_decide_eq_true h1, by omega⟩) I rv ru sr rx ry e k
  | Mod => exact int2_ok op_mod (fun i j k e => by
      obtain ⟨hs, e⟩ := bif_some e
      exact ⟨e.symm, of_decide_eq_true hs⟩) I rv ru sr rx ry e k
  | Pow => exact int2_ok op_pow (fun i j k e => by
      obtain ⟨hs, e⟩ := bif_some e
      obtain ⟨h1, h2⟩ := Bool.and_eq_true_iff.mp hs
      obtain ⟨h1, h3⟩ := Bool.and_eq_true_iff.mp h1
      have h4 := absLt_ok h3
      exact ⟨e.symm, of_decide_eq_true h1, by omega, Nat.blt_eq.mp h2⟩) I rv ru sr rx ry e k
  | LShift => exact int2_ok op_shl (fun i j k e => by
      obtain ⟨hs, e⟩ := bif_some e
      obtain ⟨h1, h2⟩ := Bool.and_eq_true_iff.mp hs
      obtain ⟨h1, h3⟩ := Bool.and_eq_true_iff.mp h1
      have h4 := absLt_ok h3
      exact ⟨e.symm, of_decide_eq_true h1, by omega, Nat.blt_eq.mp h2⟩) I rv ru sr rx ry e k
  | RShift => exact int2_ok op_shr (fun i j k e => by
      obtain ⟨hs, e⟩ := bif_some e
      exact ⟨e.symm, of_decide_eq_true hs⟩) I rv ru sr rx ry e k
  | BitAnd => exact int2_ok (rI_of op_and) (fun i j k e => ⟨(Option.some.inj e).symm, trivial⟩) I rv ru sr rx ry e k
  | BitOr => exact int2_ok (rI_of op_or) (fun i j k e => ⟨(Option.some.inj e).symm, trivial⟩) I rv ru sr rx ry e k
  | BitXor => exact int2_ok (rI_of op_xor) (fun i j k e => ⟨(Option.some.inj e).symm, trivial⟩) I rv ru sr rx ry e k
  | MatMult => cases e
  | Div => cases e
theorem un_ok (op : UnaryOp) : UnR X (unaryOp op) (fun xv H Q => ∃ ι h x t, SR X.tx ι h H ∧ Rep X.K H ι x xv ∧ unT op x = some t ∧ PV X.tx ι H t h Q) := by
  intro pins s σ H xv v Q I rv ⟨ι, h, x, t, sr, rx, e, k⟩
  unfold unT at e
  split at e
  · cases e
    exact un_neg pins s σ H xv v Q I rv ⟨_, rx.intE, k ι H _ (To.refl sr) (.int _)⟩
  · cases e
    exact un_inv pins s σ H xv v Q I rv ⟨_, rx.intE, k ι H _ (To.refl sr) (.int _)⟩
  · cases e
/-! ### comparisons -/
theorem lt_ok (hu : X.A.units + 64 < cLine) {pins : List (Addr × Obj)} {s : Shared} {σ : L2.St} {H : Hp} {xv yv : V} {v u : Value} {Q : VK} {ι : List Addr} {x y : T} {b : Bool}
    (I : Inv X pins σ H s) (rv : RelV xv v) (ru : RelV yv u) (rx : Rep X.K H ι x xv) (ry : Rep X.K H ι y yv) (e : ltT x y = some b) (k : Q (.bl b) H) :
    wpAny (model X.prog X.w) X.A (compareOp .Lt v u) (EP X pins σ Q) X.xe s := by
  unfold ltT at e
  split at e
  · cases e
    exact op_lt pins s σ H xv yv v u Q I rv ru ⟨_, _, rx.intE, ry.intE, k⟩
  · cases e
    exact op_lt_str pins s σ H xv yv v u Q I rv ru ⟨_, _, rx.strE, ry.strE, k⟩
  · rename_i as bs
    split at e
    · rename_i ns ms h1 h2
      cases e
      obtain ⟨a, xs, rfl, sx, lx⟩ := rx.tupE
      obtain ⟨c, ys, rfl, sy, ly⟩ := ry.tupE
      have e1 := mapI_ok h1 lx
      have e2 := mapI_ok h2 ly
      subst e1 e2
      exact op_ltT (by omega) pins s σ H _ _ v u Q I rv ru ⟨a, c, ns, ms, rfl, rfl, sx, sy, k⟩
    · cases e
  · cases e
theorem in_tupD (hu : X.A.units + 65 < cLine) (neg : Bool) : OpR X (compareOp (if neg then .NotIn else .In)) (fun x y H Q => ∃ d ds, Dp X.K H x d ∧ Dp X.K H y (.tuple ds) ∧ SeqAt.shaped d = true ∧ SeqAt.shaped (.tuple ds) = true ∧ Q (.bl (if neg then !(ds.any fun z => PyData.eqv z d) else ds.any fun z => PyData.eqv z d)) H) := by
  intro pins s σ H x y v u Q I rx ry ⟨d, ds, hd, he, sd, se, q⟩
  obtain ⟨as, r1⟩ := Dp.reads I d x v hd rx
  obtain ⟨bs, r2⟩ := Dp.reads I (.tuple ds) y u he ry
  cases neg with
  | false => exact SeqAt.in_tuple_reads r2 r1 (SeqAt.canLay_of_shaped se) (SeqAt.canLay_of_shaped sd) (room_in_shaped sd hu) ⟨.bl _, H, I, rfl, q⟩
  | true => exact SeqAt.notIn_tuple_reads r2 r1 (SeqAt.canLay_of_shaped se) (SeqAt.canLay_of_shaped sd) (room_in_shaped sd hu) ⟨.bl _, H, I, rfl, q⟩
theorem in_ok (hu : X.A.units + 65 < cLine) (neg : Bool) {pins : List (Addr × Obj)} {s : Shared} {σ : L2.St} {H : Hp} {xv yv : V} {v u : Value} {Q : VK} {ι : List Addr} {h : Hi} {x y : T} {b : Bool}
    (I : Inv X pins σ H s) (rv : RelV xv v) (ru : RelV yv u) (sr : SR X.tx ι h H) (rx : Rep X.K H ι x xv) (ry : Rep X.K H ι y yv) (e : inT h x y = some b) (k : Q (.bl (if neg then !b else b)) H) :
    wpAny (model X.prog X.w) X.A (compareOp (if neg then .NotIn else .In) v u) (EP X pins σ Q) X.xe s := by
  unfold inT at e
  split at e
  · rename_i ts
    split at e
    · rename_i d ds h1 h2
      cases e
      obtain ⟨d1, s1⟩ := toS_ok sr h1 rx
      obtain ⟨d2, s2⟩ := toS_ok sr h2 ry
      exact in_tupD hu neg pins s σ H xv yv v u Q I rv ru ⟨d, ds, d1, d2, s1, s2, k⟩
    · cases e
  · rename_i c
    split at e
    · rename_i a
      cases e
      cases neg with
      | false => exact op_in_str pins s σ H xv yv v u Q I rv ru ⟨a, c, rx.strE, ry.strE, k⟩
      | true => exact L2.op_notIn_str pins s σ H xv yv v u Q I rv ru ⟨a, c, rx.strE, ry.strE, k⟩
    · cases e
  · rename_i i
    split at e
    · rename_i ts hts
      split at e
      · rename_i d ds h1 h2
        cases e
        obtain ⟨d1, s1⟩ := toS_ok sr h1 rx
        obtain ⟨d2, s2⟩ := toS_ok sr h2 ry
        cases neg with
        | false => exact op_inD hu pins s σ H xv yv v u Q I rv ru ⟨d, ds, d1, d2, s1, s2, k⟩
        | true => exact op_notInD hu pins s σ H xv yv v u Q I rv ru ⟨d, ds, d1, d2, s1, s2, k⟩
      · cases e
    · rename_i kvs hk
      split at e
      · rename_i key ek
        cases e
        obtain ⟨a, ws, rfl, hi, ha, rk⟩ := sr.dk ry hk
        have ekv := key_ok ek rx
        subst ekv
        cases ru
        have eb := (valM_ok key rk).1
        cases neg with
        | false => exact d_in (by omega) I (DGet.k ha) rv fun s' I' => ⟨.bl _, H, I', rfl, by rw [eb]; exact k⟩
        | true => exact d_notIn (by omega) I (DGet.k ha) rv fun s' I' => ⟨.bl _, H, I', rfl, by rw [eb]; exact k⟩
      · cases e
    · rename_i kvs hk
      split at e
      · rename_i key ek
        cases e
        obtain ⟨a, xs, rfl, hi, ha, hsys, nd, rk⟩ := sr.dn ry hk
        cases ru
        obtain ⟨b, _, eu, kx⟩ := keyN_is I ek rx rv
        subst eu
        have dd := dn_of I ha nd rk
        have eb := (valN_ok key rk).1
        have hroom : (nestedKind X.prog X.w).room X.A.in1 := by show X.A.units + 1 + 8 < cLine; omega
        cases neg with
        | false => exact wpAny_in_heap hroom kx hsys dd ⟨.bl _, H, I.tok _, rfl, by rw [eb]; exact k⟩
        | true => exact wpAny_notIn_heap hroom kx hsys dd ⟨.bl _, H, I.tok _, rfl, by rw [eb]; exact k⟩
      · cases e
    · rename_i kvs hk
      split at e
      · rename_i key ek
        cases e
        obtain ⟨a, ob, ws, rfl, hi, ha, rk⟩ := sr.lk ry hk
        have ekv := key_ok ek rx
        subst ekv
        cases ru
        have eb := (valM_ok key rk).1
        have dg : DGet H a (kV key) (valV ws key) := .inl ⟨ws, key, .inr ⟨ob, ha⟩, rfl, rfl⟩
        cases neg with
        | false => exact d_in (by omega) I dg rv fun s' I' => ⟨.bl _, H, I', rfl, by rw [eb]; exact k⟩
        | true => exact d_notIn (by omega) I dg rv fun s' I' => ⟨.bl _, H, I', rfl, by rw [eb]; exact k⟩
      · cases e
    · cases e
  · cases e
abbrev rCmp (C : Tx) (op : CmpOp) : R2 := fun xv yv H Q => ∃ ι h x y b, SR C ι h H ∧ Rep C.K H ι x xv ∧ Rep C.K H ι y yv ∧ cmpT op x y h = some b ∧ Q (.bl b) H
theorem le2_ok {op : CmpOp} {g : Int → Int → Bool} (hr : OpR X (compareOp op) (rI0 fun i j => .bl (g i j))) {pins : List (Addr × Obj)} {s : Shared} {σ : L2.St} {H : Hp} {xv yv : V} {v u : Value} {Q : VK} {ι : List Addr} {x y : T} {b : Bool}
    (I : Inv X pins σ H s) (rv : RelV xv v) (ru : RelV yv u) (rx : Rep X.K H ι x xv) (ry : Rep X.K H ι y yv) (e : le2 g x y = some b) (k : Q (.bl b) H) : wpAny (model X.prog X.w) X.A (compareOp op v u) (EP X pins σ Q) X.xe s := by
  unfold le2 at e
  split at e
  · cases e
    exact hr pins s σ H xv yv v u Q I rv ru ⟨_, _, rx.intE, ry.intE, k⟩
  · cases e
theorem notO_some {o : Option Bool} {b : Bool} (e : notO o = some b) : ∃ c, o = some c ∧ b = !c := by
  cases o with
  | none => cases e
  | some c => exact ⟨c, rfl, (Option.some.inj e).symm⟩
theorem is_ok (neg : Bool) {pins : List (Addr × Obj)} {s : Shared} {σ : L2.St} {H : Hp} {xv yv : V} {v u : Value} {Q : VK} {ι : List Addr} {x y : T} {b : Bool}
    (I : Inv X pins σ H s) (rv : RelV xv v) (ru : RelV yv u) (rx : Rep X.K H ι x xv) (ry : Rep X.K H ι y yv) (e : isT x y = some b) (k : Q (.bl (if neg then !b else b)) H) :
    wpAny (model X.prog X.w) X.A (compareOp (if neg then .IsNot else .Is) v u) (EP X pins σ Q) X.xe s := by
  unfold isT at e
  split at e
  · have hb : b = decide (xv = .non) := by
      cases x with
      | non => rw [rx.nonE]; cases e; rfl
      | bl b => rw [rx.blE]; cases e; rfl
      | int b => rw [rx.intE]; cases e; rfl
      | str b => rw [rx.strE]; cases e; rfl
      | tup b => obtain ⟨a, xs, q, _⟩ := rx.tupE; rw [q]; cases e; rfl
      | ref b => cases rx; cases e; rfl
      | tz b => cases rx; cases e; rfl
    subst hb
    cases neg with
    | false => exact op_isN pins s σ H xv yv v u Q I rv ru ⟨ry.nonE, k⟩
    | true => exact op_notN pins s σ H xv yv v u Q I rv ru ⟨ry.nonE, k⟩
  · rename_i b2
    split at e
    · rename_i a
      cases e
      cases neg with
      | false => exact op_isBl pins s σ H xv yv v u Q I rv ru ⟨a, b2, rx.blE, ry.blE, k⟩
      | true => exact op_notBl pins s σ H xv yv v u Q I rv ru ⟨a, b2, rx.blE, ry.blE, k⟩
    · cases e
  · cases e
theorem cmp_ok (hu : X.A.units + 65 < cLine) (op : CmpOp) : OpR X (compareOp op) (rCmp X.tx op) := by
  intro pins s σ H xv yv v u Q I rv ru ⟨ι, h, x, y, b, sr, rx, ry, e, k⟩
  cases op with
  | Eq =>
    replace e : eqT x y h = some b := e
    unfold eqT at e
    split at e
    · rename_i d e' h1 h2
      cases e
      obtain ⟨d1, s1⟩ := toS_ok sr h1 rx
      obtain ⟨d2, s2⟩ := toS_ok sr h2 ry
      exact op_eqD (by omega) pins s σ H xv yv v u Q I rv ru ⟨d, e', d1, d2, s1, s2, k⟩
    · split at e
      · cases e
        obtain ⟨a, xs, rfl, sx, lx⟩ := rx.tupE
        obtain ⟨a2, ys, rfl, sy, ly⟩ := ry.tupE
        cases rv
        cases ru
        cases ly
        obtain ⟨its, r1, p1, _⟩ := I.tuple sx
        obtain ⟨its2, r2, p2, _⟩ := I.tuple sy
        cases r2
        have hl := lx.length
        have hl2 := r1.length
        obtain ⟨o1, ho1, hc1, n1, hd1⟩ := p1
        obtain ⟨o2, ho2, hc2, n2, hd2⟩ := p2
        refine SeqAt.eq_tupleAt (e := fun _ => true) (items := its.toArray) (items2 := #[]) ⟨o1, ho1, hc1, n1, hd1⟩ ⟨o2, ho2, hc2, n2, hd2⟩ (by omega) (fun j h1 h2 => absurd h2 (Nat.not_lt_zero _)) ⟨.bl _, H, I, rfl, ?_⟩
        have hne : (its.toArray.size == (#[] : Array Value).size) = false := by
          rw [List.size_toArray, ← hl2, hl]; rfl
        rw [hne, Bool.and_false]
        exact k
      · cases e
  | NotEq =>
    unfold cmpT at e
    simp only at e
    split at e
    · rename_i d e' h1 h2
      cases e
      obtain ⟨d1, s1⟩ := toS_ok sr h1 rx
      obtain ⟨d2, s2⟩ := toS_ok sr h2 ry
      exact op_neD (by omega) pins s σ H xv yv v u Q I rv ru ⟨d, e', d1, d2, s1, s2, k⟩
    · cases e
  | Lt => exact lt_ok (by omega) I rv ru rx ry e k
  | LtE => exact le2_ok op_le I rv ru rx ry e k
  | Gt => exact le2_ok op_gt I rv ru rx ry e k
  | GtE => exact le2_ok op_ge I rv ru rx ry e k
  | In => exact in_ok hu false I rv ru sr rx ry e k
  | NotIn =>
    obtain ⟨c, e1, rfl⟩ := notO_some (show notO (inT h x y) = some b from e)
    exact in_ok hu true I rv ru sr rx ry e1 k
  | Is => exact is_ok false I rv ru rx ry e k
  | IsNot =>
    obtain ⟨c, e1, rfl⟩ := notO_some (show notO (isT x y) = some b from e)
    exact is_ok true I rv ru rx ry e1 k
/-! ### truth -/
theorem isEmpty_len {α β : Type} {xs : List α} {ys : List β} (h : xs.length = ys.length) : xs.isEmpty = ys.isEmpty := by
  cases xs with
  | nil => cases ys with
    | nil => rfl
    | cons _ _ => simp at h
  | cons _ _ => cases ys with
    | nil => simp at h
    | cons _ _ => rfl
theorem tru_is {C : Tx} {ι : List Addr} {h : Hi} {H : Hp} {x : T} {xv : V} {b : Bool} (sr : SR C ι h H) (rx : Rep C.K H ι x xv) (e : truT h x = some b) : TruV C.K xv H b := by
  unfold truT at e
  split at e
  · cases e; rw [rx.nonE]; rfl
  · cases e; rw [rx.blE]; rfl
  · cases e; rw [rx.intE]; rfl
  · rename_i z
    obtain ⟨h1, h2⟩ := bif_some e
    rw [rx.strE]
    exact ⟨small_ok h1, h2.symm⟩
  · rename_i ts
    cases e
    obtain ⟨a, xs, rfl, st, rl⟩ := rx.tupE
    exact .inr (.inl ⟨xs, st, by rw [isEmpty_len rl.length]⟩)
  · cases e
  · rename_i i
    split at e
    · rename_i ts ht
      cases e
      obtain ⟨a, vs, rfl, hi, ha, rl⟩ := sr.lst rx ht
      exact .inl ⟨vs, .inl (.inl ha), by rw [isEmpty_len rl.length]⟩
    · rename_i kvs hk
      cases e
      obtain ⟨a, ws, rfl, hi, ha, rk⟩ := sr.dk rx hk
      exact .inr (.inr ⟨ws, ha, by rw [isEmpty_len (Paired.length rk)]⟩)
    · cases e
end
end Gn

/-! The engine, part 4: the compact form of a program and its interpreter. -/
namespace Gn
open PySem PySem.Spec PyProof.Rows L2

/-- a target: a name's slot, a tuple of targets -/
inductive Tg where
  | nm (i : Nat)
  | tup (ts : List Tg)
/-- built-in functions and types, called -/
inductive BI where
  | len | all | any | sum | abs | int | list | tuple | sorted | min | max | isi (ty : String) | repr | bool
/-- methods of built-in types -/
inductive MI where
  | append | extend | pop | popA | popD | insert | count | bitlen | get | update
mutual
/-- an expression -/
inductive IE where
  | bad
  | var (i : Nat)
  | glob (k : Nat)
  | con (t : T)
  | tup (es : List IE)
  | tupS (es : List (Bool × IE))
  | lst (es : List IE)
  | lstS (es : List (Bool × IE))
  | bin (op : Operator) (a b : IE)
  | un (op : UnaryOp) (a : IE)
  | not (a : IE)
  | and (a b : IE)
  | or (a b : IE)
  | ife (c a b : IE)
  | cmp (op : CmpOp) (a b : IE)
  | chain (op op' : CmpOp) (a b c : IE)
  | call (f : Nat) (es : List IE)
  | bi (b : BI) (es : List IE)
  | mth (m : MI) (o : IE) (es : List IE)
  | idx (a i : IE)
  | slc (a : IE) (lo hi : Option IE)
  | zidx (o : IE) (es : List IE)
  | tupZ (a : IE)
  | dct (kvs : List (IE × IE))
  | lc (tg : Tg) (it : II) (ifs : List IE) (elt : IE) (own : List Nat)
  | lc2 (tg : Tg) (it : II) (ifs : List IE) (tg1 : Tg) (it1 : II) (ifs1 : List IE) (elt : IE) (own : List Nat)
  | dc (tg : Tg) (it : II) (ifs : List IE) (k v : IE) (own : List Nat)
  | rangeL (hi : IE)
  | rangeT (hi : IE)
  | kidx (k : Nat) (e : IE)
  | isi (a : IE) (ty : String)
  | tru (a : IE)
  | mth0 (m : MI) (o : IE)
  | cmth0 (c : Str) (f : Nat) (o : IE)
  | fld (c : Str) (o : IE) (k : Nat)
  | newO (c : Str) (f : Nat) (es : List IE)
  | cmth (c : Str) (f : Nat) (o : IE) (es : List IE)
/-- what a for walks -/
inductive II where
  | val (e : IE)
  | rng (lo : Option IE) (hi : IE)
  | enum (e : IE)
  | zip (a b : IE)
  | keys (i : Nat)
  | items (i : Nat)
end
/-- a pattern -/
inductive Pt where
  | val (x : Str)
  | cap (i : Nat)
  | wild
  | seq (ps : List Pt)
/-- a target of a parallel assignment -/
inductive Tt where
  | nm (i : Nat)
  | sub (o i : IE)
  | fld (c : Str) (o : IE) (k : Nat)
/-- a statement -/
inductive IS where
  | bad
  | pass
  | brk
  | cont
  | ret (e : IE)
  | retN
  | expr (e : IE)
  | asg (tg : Tg) (e : IE)
  | par (gs : List Tt) (es : List IE)
  | set (o i e : IE)
  | setF (c : Str) (o : IE) (k : Nat) (e : IE)
  | augN (i : Nat) (op : Operator) (e : IE)
  | augS (o i : IE) (op : Operator) (e : IE)
  | ifs (c : IE) (a b : List IS)
  | whl (c : IE) (b : List IS)
  | fr (tg : Tg) (it : II) (b : List IS)
  | mtch (e : IE) (cs : List (Pt × List IS))
/-- how a statement ends -/
inductive Fl where
  | nx | bk | ct | rt (t : T)

/-- a source that is walked -/
inductive Src where
  | lst (i : Nat)
  | tup (ts : List T)
  | rng (lo : Int) (n : Nat)
  | enumL (i : Nat)
  | enumT (ts : List T)
  | zipL (i j : Nat)
  | zipT (as bs : List T)
  | str (x : Str)
  | keys (i : Nat)
  | items (i : Nat)
def keyT : Key → T
  | .inl i => .int i
  | .inr x => .str x
/-- the i-th item: none: stuck; some none: the end -/
def nextT (s : Src) (i : Nat) (h : Hi) : Option (Option T) := match s with
  | .lst a => match h[a]? with
    | some (.lst ts) => some ts[i]?
    | _ => none
  | .tup ts => some ts[i]?
  | .rng lo n => bif Nat.blt i n then some (some (.int (lo + i))) else some none
  | .enumL a => match h[a]? with
    | some (.lst ts) => match ts[i]? with
      | some t => some (some (.tup [.int i, t]))
      | none => some none
    | _ => none
  | .enumT ts => match ts[i]? with
    | some t => some (some (.tup [.int i, t]))
    | none => some none
  | .zipL a b => match h[a]?, h[b]? with
    | some (.lst ts), some (.lst us) => match ts[i]?, us[i]? with
      | some t, some u => some (some (.tup [t, u]))
      | _, _ => some none
    | _, _ => none
  | .zipT ts us => match ts[i]?, us[i]? with
    | some t, some u => some (some (.tup [t, u]))
    | _, _ => some none
  | .str x => match x.cps[i]? with
    | some c => some (some (.str ⟨#[c]⟩))
    | none => some none
  | .keys a => match h[a]? with
    | some (.lk kvs) => match kvs[i]? with
      | some kv => some (some (keyT kv.1))
      | none => some none
    | _ => none
  | .items a => match h[a]? with
    | some (.lk kvs) => match kvs[i]? with
      | some kv => some (some (.tup [keyT kv.1, kv.2]))
      | none => some none
    | _ => none

/-! ### binding -/
def setS (σ : Sg) (i : Nat) (t : T) : Option Sg := bif Nat.blt i σ.length then some (σ.set i (some t)) else none
def bindL (f : Tg → T → Sg → Option Sg) : List Tg → List T → Sg → Option Sg
  | [], [], σ => some σ
  | g :: gs, t :: ts, σ => match f g t σ with
    | some σ' => bindL f gs ts σ'
    | none => none
  | _, _, _ => none
/-- two levels of tuples -/
def bind0 : Tg → T → Sg → Option Sg
  | .nm i, t, σ => setS σ i t
  | .tup _, _, _ => none
def bind1 : Tg → T → Sg → Option Sg
  | .nm i, t, σ => setS σ i t
  | .tup gs, .tup ts, σ => bindL bind0 gs ts σ
  | .tup _, _, _ => none
def bindT : Tg → T → Sg → Option Sg
  | .nm i, t, σ => setS σ i t
  | .tup gs, .tup ts, σ => bindL bind1 gs ts σ
  | .tup _, _, _ => none
def Tg.slots0 : Tg → List Nat
  | .nm i => [i]
  | .tup _ => []
def Tg.slots1 : Tg → List Nat
  | .nm i => [i]
  | .tup gs => gs.flatMap Tg.slots0
def Tg.slots : Tg → List Nat
  | .nm i => [i]
  | .tup gs => gs.flatMap Tg.slots1
def wipeS (σ : Sg) : List Nat → Sg
  | [] => σ
  | v :: vs => (wipeS σ vs).set v none

/-! ### built-ins -/
def ixT (n : Nat) (i : Int) : Option Nat := match i with
  | .ofNat k => bif Nat.blt k n then some k else none
  | .negSucc k => bif Nat.ble (k + 1) n then some (n - (k + 1)) else none
def idxT (h : Hi) (a i : T) : Option T := match a with
  | .tup ts => match i with
    | .int k => match ixT ts.length k with
      | some j => ts[j]?
      | none => none
    | _ => none
  | .ref r => match h[r]? with
    | some (.lst ts) => match i with
      | .int k => match ixT ts.length k with
        | some j => ts[j]?
        | none => none
      | _ => none
    | some (.dk kvs) => match i.key with
      | some k => valM kvs k
      | none => none
    | some (.lk kvs) => match i.key with
      | some k => valM kvs k
      | none => none
    | _ => none
  | _ => none
def sIxT (n d : Nat) : Option Int → Nat
  | none => d
  | some v => match v with
    | .ofNat k => bif Nat.ble k n then k else n
    | .negSucc k => n - (k + 1)
def cutT (ts : List T) (lo hi : Option Int) : List T := (ts.drop (sIxT ts.length 0 lo)).take (sIxT ts.length ts.length hi - sIxT ts.length 0 lo)
def slcT (h : Hi) (a : T) (lo hi : Option Int) : Option (T × Hi) := match a with
  | .tup ts => some (.tup (cutT ts lo hi), h)
  | .ref r => match h[r]? with
    | some (.lst ts) => some (.ref h.length, h ++ [.lst (cutT ts lo hi)])
    | _ => none
  | _ => none
def seqT (h : Hi) (a : T) : Option (List T) := match a with
  | .tup ts => some ts
  | .ref r => match h[r]? with
    | some (.lst ts) => some ts
    | _ => none
  | _ => none
/-- insertion -/
def insI (i : Int) : List Int → List Int
  | [] => [i]
  | j :: js => bif decide (i ≤ j) then i :: j :: js else j :: insI i js
def sortI (is : List Int) : List Int := is.foldr insI []
def mapII : List T → Option (List (List Int))
  | [] => some []
  | .tup ts :: r => match mapI ts, mapII r with
    | some is, some iss => some (is :: iss)
    | _, _ => none
  | _ :: _ => none
def insL (i : List Int) : List (List Int) → List (List Int)
  | [] => [i]
  | j :: js => bif HT.lexLt j i then j :: insL i js else i :: j :: js
def sortL (is : List (List Int)) : List (List Int) := is.foldr insL []
def tupI (is : List Int) : T := .tup (is.map .int)
def sortT (ts : List T) : Option (List T) := match ts with
  | [] => some []
  | [t] => some [t]
  | ts => match mapI ts with
    | some is => some ((sortI is).map .int)
    | none => match mapII ts with
      | some iss => some ((sortL iss).map tupI)
      | none => none
def minL : List (List Int) → Option (List Int)
  | [] => none
  | i :: is => match minL is with
    | none => some i
    | some j => some (bif HT.lexLt j i then j else i)
/-- the members of a sequence, the keys of a dict -/
def itemsT (h : Hi) (a : T) : Option (List T) := match a with
  | .tup ts => some ts
  | .ref r => match h[r]? with
    | some (.lst ts) => some ts
    | some (.dk kvs) => some (kvs.map fun kv => keyT kv.1)
    | some (.dn kvs) => some (kvs.map fun kv => kv.2.1)
    | _ => none
  | _ => none
def sumI : List Int → Int
  | [] => 0
  | i :: is => i + sumI is
def minI : List Int → Option Int
  | [] => none
  | i :: is => match minI is with
    | none => some i
    | some j => some (bif decide (i ≤ j) then i else j)
def maxI : List Int → Option Int
  | [] => none
  | i :: is => match maxI is with
    | none => some i
    | some j => some (bif decide (j ≤ i) then i else j)
def allB : List Bool → Bool
  | [] => true
  | b :: bs => b && allB bs
def anyB : List Bool → Bool
  | [] => false
  | b :: bs => b || anyB bs
def tyT (h : Hi) (x : T) : Option String := match x with
  | .non => some "NoneType"
  | .bl _ => some "bool"
  | .int _ => some "int"
  | .str _ => some "str"
  | .tup _ => some "tuple"
  | .tz _ => none
  | .ref i => match h[i]? with
    | some (.lst _) => some "list"
    | some (.dk _) => some "dict"
    | _ => none
def isiT (h : Hi) (x : T) (ty : String) : Option Bool := match tyT h x with
  | some a => kitB a ty
  | none => none
def biT (b : BI) (xs : List T) (h : Hi) : Option (T × Hi) := match b, xs with
  | .list, [.ref i] => match h[i]? with
    | some (.lst ts) => some (.ref h.length, h ++ [.lst ts])
    | some (.dk kvs) => some (.ref h.length, h ++ [.lst (kvs.map fun kv => keyT kv.1)])
    | _ => none
  | .list, [.tup ts] => some (.ref h.length, h ++ [.lst ts])
  | .len, [x] => match x with
    | .tz is => some (.int is.length, h)
    | .str z => bif small z.length then some (.int z.length, h) else none
    | .tup ts => some (.int ts.length, h)
    | .ref i => match h[i]? with
      | some (.lst ts) => some (.int ts.length, h)
      | some (.dk kvs) => some (.int kvs.length, h)
      | some (.dn kvs) => bif small kvs.length then some (.int kvs.length, h) else none
      | _ => none
    | _ => none
  | .all, [.ref i] => match h[i]? with
    | some (.lst ts) => match mapB ts with
      | some bs => some (.bl (allB bs), h)
      | none => none
    | _ => none
  | .any, [.tup ts] => match mapB ts with
    | some bs => some (.bl (anyB bs), h)
    | none => none
  | .any, [.ref i] => match h[i]? with
    | some (.lst ts) => match mapB ts with
      | some bs => some (.bl (anyB bs), h)
      | none => none
    | _ => none
  | .sum, [.ref i] => match h[i]? with
    | some (.lst ts) => match mapI ts with
      | some is => some (.int (sumI is), h)
      | none => none
    | _ => none
  | .abs, [.int i] => some (.int (if i < 0 then -i else i), h)
  | .int, [.int i] => some (.int i, h)
  | .int, [.bl b] => some (.int (if b then 1 else 0), h)
  | .tuple, [x] => match seqT h x with
    | some ts => some (.tup ts, h)
    | none => none
  | .sorted, [x] => match itemsT h x with
    | some ts => bif small ts.length then (match sortT ts with
      | some us => some (.ref h.length, h ++ [.lst us])
      | none => none) else none
    | none => none
  | .min, [.int i, .int j] => some (.int (if j < i then j else i), h)
  | .max, [.int i, .int j] => some (.int (if j > i then j else i), h)
  | .min, [.ref i] => match h[i]? with
    | some (.lst ts) => match mapI ts with
      | some is => match minI is with
        | some m => some (.int m, h)
        | none => none
      | none => match mapII ts with
        | some iss => match minL iss with
          | some m => some (tupI m, h)
          | none => none
        | none => none
    | _ => none
  | .isi ty, [x] => match isiT h x ty with
    | some b => some (.bl b, h)
    | none => none
  | _, _ => none
def putM (kvs : List (Key × T)) (k : Key) (v : T) : List (Key × T) :=
  if (kvs.any fun kv => decide (kv.1 = k)) = true then kvs.map (fun kv => if kv.1 = k then (kv.1, v) else kv) else kvs ++ [(k, v)]
def delM (kvs : List (Key × T)) (k : Key) : List (Key × T) := kvs.filter fun kv => decide (kv.1 ≠ k)
def putNM (kvs : List (NestedKey × T × T)) (k : NestedKey) (t v : T) : List (NestedKey × T × T) := match kvs with
  | [] => [(k, t, v)]
  | (j, u) :: r => if j = k then (j, u.1, v) :: r else (j, u) :: putNM r k t v
/-- the place of a text among texts -/
def zidxT (i : Int) : Nat → List Int → Option Nat
  | _, [] => none
  | n, j :: js => bif decide (j = i) then some n else zidxT i (n + 1) js
def mapS : List T → Option (List Str)
  | [] => some []
  | .str x :: ts => match mapS ts with
    | some xs => some (x :: xs)
    | none => none
  | _ :: _ => none
def kidxT (x : Str) : Nat → List Str → Option Nat
  | _, [] => none
  | n, y :: ys => bif decide (y = x) then some n else kidxT x (n + 1) ys
def updM (kvs : List (Key × T)) : List (Key × T) → List (Key × T)
  | [] => kvs
  | (k, v) :: r => updM (putM kvs k v) r
/-- o[i] = v -/
def setT (h : Hi) (o i v : T) : Option Hi := match o with
  | .ref r => match h[r]? with
    | some (.lst ts) => match i with
      | .int k => match ixT ts.length k with
        | some j => some (h.set r (.lst (ts.set j v)))
        | none => none
      | _ => none
    | some (.dk kvs) => match i.key with
      | some k => bif small (kvs.length + 1) then some (h.set r (.dk (putM kvs k v))) else none
      | none => match kvs, i.keyN with
        | [], some k => some (h.set r (.dn [(k, i, v)]))
        | _, _ => none
    | some (.dn kvs) => match i.keyN with
      | some k => bif small (kvs.length + 1) then some (h.set r (.dn (putNM kvs k i v))) else none
      | none => none
    | _ => none
  | _ => none
def setD (h : Hi) (d : Nat) (y z : T) : Option Hi := match h[d]? with
  | some (.lst _) => none
  | _ => setT h (.ref d) y z
/-- whose method it is -/
def mOk (m : MI) (h : Hi) (o : T) : Bool := match o with
  | .int _ => match m with
    | .bitlen => true
    | _ => false
  | .ref r => match h[r]? with
    | some (.lst _) => match m with
      | .append => true
      | .extend => true
      | .pop => true
      | .popA => true
      | .insert => true
      | .count => true
      | _ => false
    | some (.dk _) => match m with
      | .popD => true
      | .get => true
      | .update => true
      | _ => false
    | _ => false
  | _ => false
def mthL (m : MI) (r : Nat) (ts : List T) (xs : List T) (h : Hi) : Option (T × Hi) := match m, xs with
  | .append, [x] => bif small (ts.length + 1) then some (.non, h.set r (.lst (ts ++ [x]))) else none
  | .extend, [.ref q] => match h[q]? with
    | some (.lst us) => bif small (ts.length + us.length) then some (.non, h.set r (.lst (ts ++ us))) else none
    | _ => none
  | .pop, [] => match ts[ts.length - 1]? with
    | some x => some (x, h.set r (.lst ts.dropLast))
    | none => none
  | .popA, [.int i] => match ixT ts.length i with
    | some j => match ts[j]? with
      | some x => some (x, h.set r (.lst (ts.eraseIdx j)))
      | none => none
    | none => none
  | .insert, [.int i, x] => bif small (ts.length + 1) && decide (0 ≤ i) && absLt i (2 ^ 62) then some (.non, h.set r (.lst (ts.take i.toNat ++ [x] ++ ts.drop i.toNat))) else none
  | .count, [.int i] => match mapI ts with
    | some is => some (.int (is.count i), h)
    | none => none
  | _, _ => none
def mthD (m : MI) (r : Nat) (kvs : List (Key × T)) (xs : List T) (h : Hi) : Option (T × Hi) := match m, xs with
  | .popD, [k, d] => match k.key with
    | some k => match valM kvs k with
      | some v => some (v, h.set r (.dk (delM kvs k)))
      | none => some (d, h)
    | none => none
  | .get, [k, d] => match k.key with
    | some k => match valM kvs k with
      | some v => some (v, h)
      | none => some (d, h)
    | none => none
  | .update, [.ref q] => match h[q]? with
    | some (.dk ls) => bif small (kvs.length + ls.length) && !Nat.beq r q then some (.non, h.set r (.dk (updM kvs ls))) else none
    | _ => none
  | _, _ => none
def mthT (m : MI) (o : T) (xs : List T) (h : Hi) : Option (T × Hi) := match o with
  | .int i => match m, xs with
    | .bitlen, [] => some (.int (Builtin.Int.intBits i : Nat), h)
    | _, _ => none
  | .ref r => match h[r]? with
    | some (.lst ts) => mthL m r ts xs h
    | some (.dk kvs) => mthD m r kvs xs h
    | _ => none
  | _ => none

/-! ### objects -/
def getO (h : Hi) (c : Str) (x : T) (k : Nat) : Option T := match x with
  | .ref r => match h[r]? with
    | some (.obj d fs) => bif decide (d = c) then (match fs[k]? with
      | some (some t) => some t
      | _ => none) else none
    | _ => none
  | _ => none
def putO (k : Nat) (t : T) (fs : List (Option T)) : List (Option T) := (fs ++ List.replicate (k + 1 - fs.length) none).set k (some t)
def setO (h : Hi) (c : Str) (x : T) (k : Nat) (t : T) : Option Hi := match x with
  | .ref r => match h[r]? with
    | some (.obj d fs) => bif decide (d = c) then some (h.set r (.obj d (putO k t fs))) else none
    | _ => none
  | _ => none
def isO (h : Hi) (x : T) (c : Str) : Bool := match x with
  | .ref r => match h[r]? with
    | some (.obj d _) => decide (d = c)
    | _ => false
  | _ => false

/-! ### patterns -/
def matchL (f : Pt → T → Option (Option (List (Nat × T)))) : List Pt → List T → Option (Option (List (Nat × T)))
  | [], [] => some (some [])
  | p :: ps, t :: ts => match f p t with
    | none => none
    | some none => some none
    | some (some bs) => match matchL f ps ts with
      | none => none
      | some none => some none
      | some (some cs) => some (some (bs ++ cs))
  | _, _ => none
/-- none: stuck; some none: no match -/
def matchT (h : Hi) : Nat → Pt → T → Option (Option (List (Nat × T)))
  | 0, _, _ => none
  | n + 1, p, t => match p with
    | .wild => some (some [])
    | .cap i => some (some [(i, t)])
    | .val x => match cmpT .Eq t (.str x) h with
      | some true => some (some [])
      | some false => some none
      | none => none
    | .seq ps => match t with
      | .tup ts => bif Nat.beq ts.length ps.length then matchL (matchT h n) ps ts else some none
      | .str _ => some none
      | .non => some none
      | .int _ => some none
      | .bl _ => some none
      | .ref _ => none
      | .tz _ => none
def bindAll : List (Nat × T) → Sg → Option Sg
  | [], σ => some σ
  | (i, t) :: r, σ => match setS σ i t with
    | some σ' => bindAll r σ'
    | none => none

/-! ### the interpreter -/
/-- a def: its slots' number, its parameters' number, its body -/
structure FI where
  slots : Nat
  pars : Nat
  body : List IS
structure Gt where
  fns : List FI
  consts : List T
structure Rec where
  e : Nat → IE → Sg → Hi → Option (T × Hi)
  t : Nat → IE → Sg → Hi → Option (Bool × Hi)
  es : Nat → List IE → Sg → Hi → Option (List T × Hi)
  s : Nat → IS → Sg → Hi → Option (Fl × Sg × Hi)
  ss : Nat → List IS → Sg → Hi → Option (Fl × Sg × Hi)
def startS (n : Nat) (ts : List T) : Sg := ts.map some ++ List.replicate (n - ts.length) none
/-- a def's call: on trees alone it runs in a heap of its own -/
def runF (r : Rec) (l : Nat) (f : FI) (ts : List T) (h : Hi) : Option (T × Hi) := match r.ss l f.body (startS f.slots ts) h with
  | some (.nx, _, h') => some (.non, h')
  | some (.rt t, _, h') => some (t, h')
  | _ => none
mutual
def T.shift (k : Nat) : T → T
  | .ref i => .ref (i + k)
  | .tup ts => .tup (T.shiftL k ts)
  | t => t
def T.shiftL (k : Nat) : List T → List T
  | [] => []
  | t :: ts => t.shift k :: T.shiftL k ts
end
def MO.shift (k : Nat) : MO → MO
  | .lst ts => .lst (T.shiftL k ts)
  | .dk kvs => .dk (kvs.map fun p => (p.1, p.2.shift k))
  | .dn kvs => .dn (kvs.map fun p => (p.1, p.2.1, p.2.2.shift k))
  | .lk kvs => .lk (kvs.map fun p => (p.1, p.2.shift k))
  | .obj c fs => .obj c (fs.map fun p => p.map (T.shift k))
/-- a call's value and heap, behind the caller's heap -/
def allF (h : Hi) (t : T) (h' : Hi) : T × Hi := (t.shift h.length, h ++ h'.map (MO.shift h.length))
def backF (h : Hi) : Option (T × Hi) → Option (T × Hi)
  | some (t, h') => bif t.flat then some (t, h) else match t with
    | .ref i => match h'[i]? with
      | some (.lst us) => bif T.flatL us then some (.ref h.length, h ++ [.lst us]) else some (allF h (.ref i) h')
      | _ => some (allF h (.ref i) h')
    | t => some (allF h t h')
  | none => none
def callF (r : Rec) (l : Nat) (f : FI) (ts : List T) (h : Hi) : Option (T × Hi) :=
  bif Nat.beq ts.length f.pars then
    bif T.flatL ts then backF h (runF r l f ts []) else runF r l f ts h
  else none
def bind2 {α β : Type} (x : Option (α × Hi)) (f : α → Hi → Option β) : Option β := match x with
  | some (a, h) => f a h
  | none => none
def optE (r : Rec) (l : Nat) (e : Option IE) (σ : Sg) (h : Hi) : Option (Option Int × Hi) := match e with
  | none => some (none, h)
  | some e => match r.e l e σ h with
    | some (.int i, h') => some (some i, h')
    | _ => none
/-- a source, its heap -/
def srcI (r : Rec) (l : Nat) (it : II) (σ : Sg) (h : Hi) : Option (Src × Hi) := match it with
  | .val e => match r.e l e σ h with
    | some (.tup ts, h') => some (.tup ts, h')
    | some (.str x, h') => some (.str x, h')
    | some (.ref i, h') => match h'[i]? with
      | some (.lst _) => some (.lst i, h')
      | _ => none
    | _ => none
  | .rng lo hi => match lo with
    | none => match r.e l hi σ h with
      | some (.int j, h') => bif absLt j (2 ^ 62) then some (.rng 0 j.toNat, h') else none
      | _ => none
    | some lo => match r.e l lo σ h with
      | some (.int i, h1) => match r.e l hi σ h1 with
        | some (.int j, h2) => bif absLt i (2 ^ 62) && absLt j (2 ^ 62) then some (.rng i (j - i).toNat, h2) else none
        | _ => none
      | _ => none
  | .enum e => match r.e l e σ h with
    | some (.tup ts, h') => some (.enumT ts, h')
    | some (.ref i, h') => match h'[i]? with
      | some (.lst _) => some (.enumL i, h')
      | _ => none
    | _ => none
  | .zip a b => match r.e l a σ h with
    | some (x, h1) => match r.e l b σ h1 with
      | some (y, h2) => match x, y with
        | .tup as, .tup bs => some (.zipT as bs, h2)
        | .ref i, .ref j => match h2[i]?, h2[j]? with
          | some (.lst _), some (.lst _) => some (.zipL i j, h2)
          | _, _ => none
        | _, _ => none
      | none => none
    | none => none
  | .keys i => match r.e l (.var i) σ h with
    | some (.ref a, h1) => match h1[a]? with
      | some (.lk _) => some (.keys a, h1)
      | _ => none
    | _ => none
  | .items i => match r.e l (.var i) σ h with
    | some (.ref a, h1) => match h1[a]? with
      | some (.lk _) => some (.items a, h1)
      | _ => none
    | _ => none
def lockII (it : II) : II := match it with
  | .val (.var i) => .keys i
  | it => it
/-- the dict that is locked while it is walked -/
def lockOf (it : II) (σ : Sg) : Option Nat := match it with
  | .keys i => match σ[i]? with
    | some (some (.ref a)) => some a
    | _ => none
  | .items i => match σ[i]? with
    | some (some (.ref a)) => some a
    | _ => none
  | .val (.var i) => match σ[i]? with
    | some (some (.ref a)) => some a
    | _ => none
  | _ => none
def ifsT (r : Rec) (l : Nat) : List IE → Sg → Hi → Option (Bool × Hi)
  | [], _, h => some (true, h)
  | c :: cs, σ, h => match r.t l c σ h with
    | some (true, h') => ifsT r l cs σ h'
    | some (false, h') => some (false, h')
    | none => none
/-- the turns of a for -/
def forT (r : Rec) (l : Nat) (src : Src) (tg : Tg) (b : List IS) : Nat → Nat → Sg → Hi → Option (Fl × Sg × Hi)
  | 0, _, _, _ => none
  | m + 1, i, σ, h => match nextT src i h with
    | none => none
    | some none => some (.nx, σ, h)
    | some (some t) => match bindT tg t σ with
      | none => none
      | some σ1 => match r.ss l b σ1 h with
        | some (.nx, σ2, h2) => forT r l src tg b m (i + 1) σ2 h2
        | some (.ct, σ2, h2) => forT r l src tg b m (i + 1) σ2 h2
        | some (.bk, σ2, h2) => some (.nx, σ2, h2)
        | some (.rt v, σ2, h2) => some (.rt v, σ2, h2)
        | none => none
def whlT (r : Rec) (l : Nat) (c : IE) (b : List IS) : Nat → Sg → Hi → Option (Fl × Sg × Hi)
  | 0, _, _ => none
  | m + 1, σ, h => match r.t l c σ h with
    | some (true, h1) => match r.ss l b σ h1 with
      | some (.nx, σ2, h2) => whlT r l c b m σ2 h2
      | some (.ct, σ2, h2) => whlT r l c b m σ2 h2
      | some (.bk, σ2, h2) => some (.nx, σ2, h2)
      | some (.rt v, σ2, h2) => some (.rt v, σ2, h2)
      | none => none
    | some (false, h1) => some (.nx, σ, h1)
    | none => none
/-- the turns of a comprehension: acc is the new list's number -/
def lcT (r : Rec) (l : Nat) (src : Src) (tg : Tg) (ifs : List IE) (elt : IE) (σ : Sg) (acc : Nat) : Nat → Nat → Hi → Option Hi
  | 0, _, _ => none
  | m + 1, i, h => match nextT src i h with
    | none => none
    | some none => some h
    | some (some t) => match bindT tg t σ with
      | none => none
      | some σ1 => match ifsT r l ifs σ1 h with
        | some (false, h1) => lcT r l src tg ifs elt σ acc m (i + 1) h1
        | some (true, h1) => match r.e l elt σ1 h1 with
          | some (v, h2) => match h2[acc]? with
            | some (.lst ts) => bif small (ts.length + 1) then lcT r l src tg ifs elt σ acc m (i + 1) (h2.set acc (.lst (ts ++ [v]))) else none
            | _ => none
          | none => none
        | none => none
/-- two levels of a comprehension -/
def lc2T (r : Rec) (l : Nat) (src : Src) (tg : Tg) (ifs : List IE) (tg1 : Tg) (it1 : II) (ifs1 : List IE) (elt : IE) (σ : Sg) (acc : Nat) (lim : Nat) : Nat → Nat → Hi → Option Hi
  | 0, _, _ => none
  | m + 1, i, h => match nextT src i h with
    | none => none
    | some none => some h
    | some (some t) => match bindT tg t σ with
      | none => none
      | some σ1 => match ifsT r l ifs σ1 h with
        | some (false, h1) => lc2T r l src tg ifs tg1 it1 ifs1 elt σ acc lim m (i + 1) h1
        | some (true, h1) => match srcI r l it1 σ1 h1 with
          | some (src1, h2) => match lcT r l src1 tg1 ifs1 elt (wipeS σ1 tg1.slots) acc lim 0 h2 with
            | some h3 => lc2T r l src tg ifs tg1 it1 ifs1 elt σ acc lim m (i + 1) h3
            | none => none
          | none => none
        | none => none
def dcT (r : Rec) (l : Nat) (src : Src) (tg : Tg) (ifs : List IE) (k v : IE) (σ : Sg) (acc : Nat) : Nat → Nat → Hi → Option Hi
  | 0, _, _ => none
  | m + 1, i, h => match nextT src i h with
    | none => none
    | some none => some h
    | some (some t) => match bindT tg t σ with
      | none => none
      | some σ1 => match ifsT r l ifs σ1 h with
        | some (false, h1) => dcT r l src tg ifs k v σ acc m (i + 1) h1
        | some (true, h1) => match r.e l k σ1 h1 with
          | some (y, h2) => match r.e l v σ1 h2 with
            | some (z, h3) => match setD h3 acc y z with
              | some h4 => dcT r l src tg ifs k v σ acc m (i + 1) h4
              | none => none
            | none => none
          | none => none
        | none => none
def tupST (r : Rec) (l : Nat) : List (Bool × IE) → Sg → Hi → Option (List T × Hi)
  | [], _, h => some ([], h)
  | (b, e) :: es, σ, h => match r.e l e σ h with
    | some (x, h1) => bif b then match seqT h1 x with
        | some xs => match tupST r l es σ h1 with
          | some (ys, h2) => some (xs ++ ys, h2)
          | none => none
        | none => none
      else match tupST r l es σ h1 with
        | some (ys, h2) => some (x :: ys, h2)
        | none => none
    | none => none
def pairsT (r : Rec) (l : Nat) : List (IE × IE) → Sg → Hi → Option (List (T × T) × Hi)
  | [], _, h => some ([], h)
  | (a, b) :: es, σ, h => match r.e l a σ h with
    | some (x, h1) => match r.e l b σ h1 with
      | some (y, h2) => match pairsT r l es σ h2 with
        | some (ps, h3) => some ((x, y) :: ps, h3)
        | none => none
      | none => none
    | none => none
def putD (d : Nat) : List (T × T) → Hi → Option Hi
  | [], h => some h
  | (x, y) :: ps, h => match setD h d x y with
    | some h1 => putD d ps h1
    | none => none
def loopMax : Nat := 100000
def parT (r : Rec) (l : Nat) (gs : List Tt) (ts : List T) (σ : Sg) (h : Hi) : Option (Sg × Hi) := match gs, ts with
  | [], [] => some (σ, h)
  | .nm i :: gs, t :: ts => match setS σ i t with
    | some σ' => parT r l gs ts σ' h
    | none => none
  | .sub o i :: gs, t :: ts => match r.e l o σ h with
    | some (x, h1) => match r.e l i σ h1 with
      | some (y, h2) => match setT h2 x y t with
        | some h3 => parT r l gs ts σ h3
        | none => none
      | none => none
    | none => none
  | .fld c o k :: gs, t :: ts => match r.e l o σ h with
    | some (x, h1) => match setO h1 c x k t with
      | some h2 => parT r l gs ts σ h2
      | none => none
    | none => none
  | _, _ => none
def casesT (r : Rec) (l : Nat) (t : T) (σ : Sg) (h : Hi) : List (Pt × List IS) → Option (Fl × Sg × Hi)
  | [] => some (.nx, σ, h)
  | (p, b) :: cs => match matchT h 5 p t with
    | none => none
    | some none => casesT r l t σ h cs
    | some (some bs) => match bindAll bs σ with
      | some σ' => r.ss l b σ' h
      | none => none
def stepE (g : Gt) (r : Rec) (l : Nat) (ie : IE) (σ : Sg) (h : Hi) : Option (T × Hi) := match ie with
  | .bad => none
  | .var i => match σ[i]? with
    | some (some t) => some (t, h)
    | _ => none
  | .glob k => match g.consts[k]? with
    | some t => some (t, h)
    | none => none
  | .con t => some (t, h)
  | .tup es => match r.es l es σ h with
    | some (ts, h1) => bif small ts.length then some (.tup ts, h1) else none
    | none => none
  | .tupS es => match tupST r l es σ h with
    | some (ts, h1) => bif small ts.length then some (.tup ts, h1) else none
    | none => none
  | .lst es => match r.es l es σ h with
    | some (ts, h1) => bif small ts.length then some (.ref h1.length, h1 ++ [.lst ts]) else none
    | none => none
  | .lstS es => match tupST r l es σ h with
    | some (ts, h1) => bif small ts.length then some (.ref h1.length, h1 ++ [.lst ts]) else none
    | none => none
  | .bin op a b => match r.e l a σ h with
    | some (x, h1) => match r.e l b σ h1 with
      | some (y, h2) => binT op x y h2
      | none => none
    | none => none
  | .un op a => match r.e l a σ h with
    | some (x, h1) => match unT op x with
      | some t => some (t, h1)
      | none => none
    | none => none
  | .not a => match r.e l a σ h with
    | some (.bl b, h1) => some (.bl (!b), h1)
    | _ => none
  | .and a b => match r.e l a σ h with
    | some (.bl true, h1) => r.e l b σ h1
    | some (.bl false, h1) => some (.bl false, h1)
    | _ => none
  | .or a b => match r.e l a σ h with
    | some (.bl true, h1) => some (.bl true, h1)
    | some (.bl false, h1) => r.e l b σ h1
    | _ => none
  | .ife c a b => match r.t l c σ h with
    | some (true, h1) => r.e l a σ h1
    | some (false, h1) => r.e l b σ h1
    | none => none
  | .cmp op a b => match r.e l a σ h with
    | some (x, h1) => match r.e l b σ h1 with
      | some (y, h2) => match cmpT op x y h2 with
        | some b => some (.bl b, h2)
        | none => none
      | none => none
    | none => none
  | .chain op op' a b c => match r.e l a σ h with
    | some (x, h1) => match r.e l b σ h1 with
      | some (y, h2) => match cmpT op x y h2 with
        | some true => match r.e l c σ h2 with
          | some (z, h3) => match cmpT op' y z h3 with
            | some b => some (.bl b, h3)
            | none => none
          | none => none
        | some false => some (.bl false, h2)
        | none => none
      | none => none
    | none => none
  | .call f es => match l with
    | 0 => none
    | l' + 1 => match r.es l es σ h with
      | some (ts, h1) => match g.fns[f]? with
        | some fi => callF r l' fi ts h1
        | none => none
      | none => none
  | .bi b es => match r.es l es σ h with
    | some (ts, h1) => biT b ts h1
    | none => none
  | .mth m o es => match r.e l o σ h with
    | some (x, h1) => bif mOk m h1 x then match r.es l es σ h1 with
        | some (ts, h2) => mthT m x ts h2
        | none => none
      else none
    | none => none
  | .idx a i => match r.e l a σ h with
    | some (x, h1) => match r.e l i σ h1 with
      | some (y, h2) => match idxT h2 x y with
        | some t => some (t, h2)
        | none => none
      | none => none
    | none => none
  | .slc a lo hi => match r.e l a σ h with
    | some (x, h1) => match optE r l lo σ h1 with
      | some (i, h2) => match optE r l hi σ h2 with
        | some (j, h3) => slcT h3 x i j
        | none => none
      | none => none
    | none => none
  | .zidx o es => match r.e l o σ h with
    | some (.tz is, h1) => match r.es l es σ h1 with
      | some ([.int i], h2) => match zidxT i 0 is with
        | some j => some (.int (j : Nat), h2)
        | none => none
      | some ([.int i, .int (.ofNat k)], h2) => bif small k then match zidxT i k (is.drop k) with
          | some j => some (.int (j : Nat), h2)
          | none => none
        else none
      | _ => none
    | _ => none
  | .tupZ a => match r.e l a σ h with
    | some (.ref i, h1) => match h1[i]? with
      | some (.lst ts) => match mapI ts with
        | some is => some (.tz is, h1)
        | none => none
      | _ => none
    | _ => none
  | .dct kvs => match pairsT r l kvs σ (h ++ [.dk []]) with
    | some (ps, h1) => match putD h.length ps h1 with
      | some h2 => some (.ref h.length, h2)
      | none => none
    | none => none
  | .lc tg it ifs elt own => match lockOf it σ with
    | none => match srcI r l it σ h with
      | some (src, h1) => match lcT r l src tg ifs elt (wipeS σ own) h1.length loopMax 0 (h1 ++ [.lst []]) with
        | some h2 => some (.ref h1.length, h2)
        | none => none
      | none => none
    | some a => match h[a]? with
      | some (.dk kvs) => match srcI r l (lockII it) σ (h.set a (.lk kvs)) with
        | some (src, h1) => match lcT r l src tg ifs elt (wipeS σ own) h1.length loopMax 0 (h1 ++ [.lst []]) with
          | some h2 => match h2[a]? with
            | some (.lk kvs') => some (.ref h1.length, h2.set a (.dk kvs'))
            | _ => none
          | none => none
        | none => none
      | _ => match srcI r l it σ h with
        | some (src, h1) => match lcT r l src tg ifs elt (wipeS σ own) h1.length loopMax 0 (h1 ++ [.lst []]) with
          | some h2 => some (.ref h1.length, h2)
          | none => none
        | none => none
  | .lc2 tg it ifs tg1 it1 ifs1 elt own => match srcI r l it σ h with
    | some (src, h1) => match lc2T r l src tg ifs tg1 it1 ifs1 elt (wipeS σ own) h1.length loopMax loopMax 0 (h1 ++ [.lst []]) with
      | some h2 => some (.ref h1.length, h2)
      | none => none
    | none => none
  | .dc tg it ifs k v own => match srcI r l it σ h with
    | some (src, h1) => match dcT r l src tg ifs k v (wipeS σ own) h1.length loopMax 0 (h1 ++ [.dk []]) with
      | some h2 => some (.ref h1.length, h2)
      | none => none
    | none => none
  | .fld c o k => match r.e l o σ h with
    | some (x, h1) => match getO h1 c x k with
      | some t => some (t, h1)
      | none => none
    | none => none
  | .newO c f es => match l with
    | 0 => none
    | 1 => none
    | l' + 2 => match r.es l es σ h with
      | some (ts, h1) => match g.fns[f]? with
        | some fi => bif Nat.beq (ts.length + 1) fi.pars then (match runF r l' fi (.ref h1.length :: ts) (h1 ++ [.obj c []]) with
          | some (.non, h2) => some (.ref h1.length, h2)
          | _ => none)
          else none
        | none => none
      | none => none
  | .cmth c f o es => match l with
    | 0 => none
    | l' + 1 => match r.e l o σ h with
      | some (x, h1) => match r.es l es σ h1 with
        | some (ts, h2) => match g.fns[f]? with
          | some fi => bif isO h1 x c && Nat.beq (ts.length + 1) fi.pars then runF r l' fi (x :: ts) h2 else none
          | none => none
        | none => none
      | none => none
  | .rangeL hi => match r.e l hi σ h with
    | some (.int j, h1) => bif absLt j 100000 then some (.ref h1.length, h1 ++ [.lst ((List.range j.toNat).map fun (k : Nat) => T.int k)]) else none
    | _ => none
  | .rangeT hi => match r.e l hi σ h with
    | some (.int j, h1) => bif absLt j 100000 then some (.tup ((List.range j.toNat).map fun (k : Nat) => T.int k), h1) else none
    | _ => none
  | .tru _ => none
  | .mth0 m o => match r.e l o σ h with
    | some (x, h1) => bif mOk m h1 x then mthT m x [] h1 else none
    | none => none
  | .cmth0 c f o => match l with
    | 0 => none
    | l' + 1 => match r.e l o σ h with
      | some (x, h1) => match g.fns[f]? with
        | some fi => bif isO h1 x c && Nat.beq 1 fi.pars then runF r l' fi [x] h1 else none
        | none => none
      | none => none
  | .isi a ty => match r.e l a σ h with
    | some (x, h1) => match isiT h1 x ty with
      | some b => some (.bl b, h1)
      | none => none
    | none => none
  | .kidx k e => match r.e l e σ h with
    | some (.str x, h1) => match g.consts[k]? with
      | some (.tup ts) => match mapS ts with
        | some ys => match kidxT x 0 ys with
          | some j => some (.int (j : Nat), h1)
          | none => none
        | none => none
      | _ => none
    | _ => none
def stepT (g : Gt) (r : Rec) (l : Nat) (ie : IE) (σ : Sg) (h : Hi) : Option (Bool × Hi) := match ie with
  | .not a => match r.t l a σ h with
    | some (b, h1) => some (!b, h1)
    | none => none
  | .and a b => match r.t l a σ h with
    | some (true, h1) => r.t l b σ h1
    | some (false, h1) => some (false, h1)
    | none => none
  | .or a b => match r.t l a σ h with
    | some (true, h1) => some (true, h1)
    | some (false, h1) => r.t l b σ h1
    | none => none
  | .cmp op a b => match r.e l a σ h with
    | some (x, h1) => match r.e l b σ h1 with
      | some (y, h2) => match cmpT op x y h2 with
        | some b => some (b, h2)
        | none => none
      | none => none
    | none => none
  | .chain op op' a b c => match stepE g r l (.chain op op' a b c) σ h with
    | some (.bl b, h1) => some (b, h1)
    | _ => none
  | .tru e => match r.e l e σ h with
    | some (x, h1) => match truT h1 x with
      | some b => some (b, h1)
      | none => none
    | none => none
  | _ => none
def stepEs (r : Rec) (l : Nat) (es : List IE) (σ : Sg) (h : Hi) : Option (List T × Hi) := match es with
  | [] => some ([], h)
  | e :: es => match r.e l e σ h with
    | some (x, h1) => match r.es l es σ h1 with
      | some (xs, h2) => some (x :: xs, h2)
      | none => none
    | none => none
/-- x op= y of ints -/
def augT (op : Operator) (x y : T) : Option T := match x, y with
  | .int i, .int j => match op with
    | .Add => some (.int (i + j))
    | .Sub => some (.int (i - j))
    | .BitAnd => some (.int (Builtin.bitAnd i j))
    | .BitOr => some (.int (Builtin.bitOr i j))
    | .BitXor => some (.int (Builtin.bitXor i j))
    | _ => none
  | _, _ => none
def stepS (g : Gt) (r : Rec) (l : Nat) (is : IS) (σ : Sg) (h : Hi) : Option (Fl × Sg × Hi) := match is with
  | .bad => none
  | .pass => some (.nx, σ, h)
  | .brk => some (.bk, σ, h)
  | .cont => some (.ct, σ, h)
  | .ret e => match r.e l e σ h with
    | some (t, h1) => some (.rt t, σ, h1)
    | none => none
  | .retN => some (.rt .non, σ, h)
  | .expr e => match r.e l e σ h with
    | some (_, h1) => some (.nx, σ, h1)
    | none => none
  | .asg tg e => match r.e l e σ h with
    | some (t, h1) => match bindT tg t σ with
      | some σ1 => some (.nx, σ1, h1)
      | none => none
    | none => none
  | .par is es => match r.es l es σ h with
    | some (ts, h1) => match parT r l is ts σ h1 with
      | some (σ1, h2) => some (.nx, σ1, h2)
      | none => none
    | none => none
  | .set o i e => match r.e l e σ h with
    | some (v, h1) => match r.e l o σ h1 with
      | some (x, h2) => match r.e l i σ h2 with
        | some (y, h3) => match setT h3 x y v with
          | some h4 => some (.nx, σ, h4)
          | none => none
        | none => none
      | none => none
    | none => none
  | .setF c o k e => match r.e l e σ h with
    | some (v, h1) => match r.e l o σ h1 with
      | some (x, h2) => match setO h2 c x k v with
        | some h3 => some (.nx, σ, h3)
        | none => none
      | none => none
    | none => none
  | .augN i op e => match σ[i]? with
    | some (some x) => match r.e l e σ h with
      | some (y, h1) => match augT op x y with
        | some z => match setS σ i z with
          | some σ1 => some (.nx, σ1, h1)
          | none => none
        | none => none
      | none => none
    | _ => none
  | .augS o i op e => match r.e l o σ h with
    | some (x, h1) => match r.e l i σ h1 with
      | some (y, h2) => match idxT h2 x y with
        | some old => match r.e l e σ h2 with
          | some (v, h3) => match augT op old v with
            | some z => match setT h3 x y z with
              | some h5 => some (.nx, σ, h5)
              | none => none
            | none => none
          | none => none
        | none => none
      | none => none
    | none => none
  | .ifs c a b => match r.t l c σ h with
    | some (true, h1) => r.ss l a σ h1
    | some (false, h1) => r.ss l b σ h1
    | none => none
  | .whl c b => whlT r l c b loopMax σ h
  | .fr tg it b => match lockOf it σ with
    | none => match srcI r l it σ h with
      | some (src, h1) => forT r l src tg b loopMax 0 σ h1
      | none => none
    | some a => match h[a]? with
      | some (.dk kvs) => match srcI r l (lockII it) σ (h.set a (.lk kvs)) with
        | some (src, h1) => match forT r l src tg b loopMax 0 σ h1 with
          | some (fl, σ2, h2) => match h2[a]? with
            | some (.lk kvs') => some (fl, σ2, h2.set a (.dk kvs'))
            | _ => none
          | none => none
        | none => none
      | some (.lk _) => match srcI r l (lockII it) σ h with
        | some (src, h1) => forT r l src tg b loopMax 0 σ h1
        | none => none
      | _ => match srcI r l it σ h with
        | some (src, h1) => forT r l src tg b loopMax 0 σ h1
        | none => none
  | .mtch e cs => match r.e l e σ h with
    | some (t, h1) => casesT r l t σ h1 cs
    | none => none
def stepSs (r : Rec) (l : Nat) (is : List IS) (σ : Sg) (h : Hi) : Option (Fl × Sg × Hi) := match is with
  | [] => some (.nx, σ, h)
  | s :: ss => match r.s l s σ h with
    | some (.nx, σ1, h1) => r.ss l ss σ1 h1
    | some x => some x
    | none => none
def step (g : Gt) (r : Rec) : Rec := ⟨stepE g r, stepT g r, stepEs r, stepS g r, stepSs r⟩
def stuck : Rec := ⟨fun _ _ _ _ => none, fun _ _ _ _ => none, fun _ _ _ _ => none, fun _ _ _ _ => none, fun _ _ _ _ => none⟩
def run (g : Gt) : Nat → Rec
  | 0 => stuck
  | n + 1 => step g (run g n)
end Gn

set_option maxHeartbeats 4000000
/-! enumerate of a tuple. -/
namespace PySem
open PySem.AutoSeq1 (wpAny_loadPart')
theorem gn_enum_new (t : Addr) (items : Array Value) :
    Meets (Builtin.«enumerate.__new__» ⟨[.type "enumerate", .ref t], []⟩) (fun _ R s => s.heap.IsTuple t items ∧
      R (.ok (.ret (.ref (s.heap.push { cls := .type "tuple_iterator", data := .fields #[.ref t, .int 0 0] }).objs.size)))
        { s with heap := (s.heap.push { cls := .type "tuple_iterator", data := .fields #[.ref t, .int 0 0] }).push { cls := .type "enumerate", data := .fields #[.none, .bool false, .ref s.heap.objs.size, rawInt 0, .none, .none] } }) :=
  .of_wp fun prog w A R s h => by
    obtain ⟨hp, g, d, tk, os⟩ := s; obtain ⟨hl, h⟩ := h
    have hsub := sub_enumerate
    have q1 : ∀ {A' : Around} {E : Value → Shared → Prop} {Q : Value → Shared → Prop}, Q (.ref hp.objs.size) ⟨hp.push { cls := .type "tuple_iterator", data := .fields #[.ref t, .int 0 0] }, g, d, tk, os⟩ → wpAny (model prog w) A' (pyIter (.ref t)) Q E ⟨hp, g, d, tk, os⟩ :=
      fun q => wpAny_pyIter_tuple hl q
    wp_walk using q1
    refine wpAny_stack_any fun st => wpAny_pure ?_
    split
    · rename_i c _ _ _ _ _
      cases (c == Value.type "enumerate")
      · wp_walk using q1
        exact ⟨_, rfl, h⟩
      · wp_walk using q1
        exact ⟨_, rfl, h⟩
    · wp_walk using q1
      exact ⟨_, rfl, h⟩
section
variable {prog : Program} {w : World} {A : Around} {E : Value → Shared → Prop} {s : Shared}
theorem gn_enum_tuple {t : Addr} {items : Array Value} {Q : Value → Shared → Prop} (hl : s.heap.IsTuple t items)
    (h : ∀ h', IsEnum h' (s.heap.objs.size + 1) s.heap.objs.size 0 .none → h'.IsTupleIter s.heap.objs.size t 0 → (∀ b o, s.heap.get? b = some o → h'.get? b = some o) → Q (.ref (s.heap.objs.size + 1)) { s with heap := h' }) :
    wpAny (model prog w) A (call (.type "enumerate") [.ref t]) Q E s := by
  refine callType_new F.called_enumerate (by decide) (F.typeCall_enumerate_1 _) (F.newCall_enumerate_1 _) (fun obj => F.args_object_init_2 obj _) F.entry_enumerate_new
    (gn_enum_new t items) ⟨hl, ?_⟩
  have hz : (s.heap.push { cls := .type "tuple_iterator", data := .fields #[.ref t, .int 0 0] }).objs.size = s.heap.objs.size + 1 := Heap.size_push ..
  show _ ∧ _
  rw [hz]
  have he : IsEnum ((s.heap.push { cls := .type "tuple_iterator", data := .fields #[.ref t, .int 0 0] }).push
      { cls := .type "enumerate", data := .fields #[.none, .bool false, .ref s.heap.objs.size, rawInt 0, .none, .none] }) (s.heap.objs.size + 1) s.heap.objs.size 0 .none := by
    have := Heap.get?_push_size (s.heap.push { cls := .type "tuple_iterator", data := .fields #[.ref t, .int 0 0] })
      (o := { cls := .type "enumerate", data := .fields #[.none, .bool false, .ref s.heap.objs.size, rawInt 0, .none, .none] }) rfl
    rw [hz] at this; exact this
  exact ⟨⟨_, he, rfl⟩, h _ he ⟨_, Heap.get?_push_of_some _ (Heap.get?_push_size _ rfl), rfl, rfl⟩ fun b o x => Heap.get?_push_of_some _ (Heap.get?_push_of_some _ x)⟩
end
end PySem
namespace Gn
open PySem PySem.Spec PyProof.Rows L2
/-- the tuple at a, each item in a new pair -/
def IteT (K : PySem.W.Frag) (a : Addr) : It :=
  ⟨fun i H => ∃ (xs : List V) (x : V), SqT K H a xs ∧ xs[i]? = some x, fun i H v H' => ∃ T x, v = .ref T ∧ H T = none ∧ H' = upd H T (.tup [.int (i : Nat), x]) ∧ ∀ xs, SqT K H a xs → xs[i]? = some x, fun i H => ∃ xs : List V, SqT K H a xs ∧ xs.length ≤ i⟩
theorem turn_enumT {P : Program} {w : World} {K : PySem.W.Frag} {elts : List Expr} {kk : Nat} {tpos : Pos} (a e it : Addr) :
    Turn P w K (.Tuple elts kk tpos) (IteT K a) [e, it] e (fun i h => (∃ old, IsEnum h e it ((i : Nat) : Int) old) ∧ h.IsTupleIter it a i ∧ e ≠ it) where
  mem := by simp
  obj := fun i h st b hb => by
    obtain ⟨⟨old, he⟩, ⟨o, ho, hc, hd⟩, _⟩ := st
    have e' : b = e ∨ b = it := by simpa using hb
    rcases e' with z | z
    · rw [z]; exact ⟨_, he, fun v q => nomatch q⟩
    · rw [z]; exact ⟨o, ho, fun v q => by rw [hd] at q; cases q⟩
  keep := fun i h h' st k => let ⟨⟨old, he⟩, hi, hne⟩ := st; ⟨⟨old, k e (by simp) _ he⟩, hi.at fun o q => k it (by simp) o q, hne⟩
  item := by
    intro X hP hw hK hc i pins s σ H E I hf st hg
    subst hP hw hK
    obtain ⟨⟨old, he⟩, hit, hne⟩ := st
    obtain ⟨xs, x, hq, hx⟩ := hg
    obtain ⟨its, rv, p, hz⟩ := I.tuple hq
    obtain ⟨u, hu, ru⟩ := rv.get hx
    have p' : s.heap.IsTuple a its.toArray := p
    have hel : e < s.heap.objs.size := Heap.lt_size he
    have hil : it < s.heap.objs.size := by obtain ⟨_, q, _⟩ := hit; exact Heap.lt_size q
    have hai : a ≠ it := by
      intro z
      obtain ⟨o, ho, hc1, _⟩ := p'
      obtain ⟨o', ho', hc2, _⟩ := hit
      rw [z, ho'] at ho
      cases ho
      rw [hc1] at hc2
      exact absurd hc2 (by decide)
    have hea : e ≠ a := by
      intro z
      obtain ⟨o, ho, hc1, _⟩ := p'
      rw [← z, show s.heap.get? e = _ from he] at ho
      cases ho
      have hc1 : Value.type "enumerate" = Value.type "tuple" := hc1
      exact absurd hc1 (by decide)
    have hil2 : i < its.toArray.size := by have := (List.getElem?_eq_some_iff.mp hu).1; simpa using this
    refine wpAny_pyNext_enum_itemD (Draws.tuple (A := X.A.in1) (I.ok.hd hc) it a hai its.toArray) he ⟨hit, p'⟩ hil2 hne (fun m => by simp at m; rcases m with z | z; exact hne z; exact hea z) fun x' h' tk px ho st' hT hsz hk => ?_
    have ex : x' = u := by
      have px : its[i]? = some x' := by simpa using px
      rw [hu] at px; exact (Option.some.inj px).symm
    subst ex
    refine ⟨_, rfl, wpAny_letOwnedTupleGo_enum (s := { s with heap := h', toks := tk + 1 }) ho fun h'' he' sb => ?_⟩
    have hT2 : h''.get? s.heap.objs.size = some { cls := .type "tuple", data := .seq #[.int i tk, x'] } := (sb.2 _ (Nat.ne_of_gt hel)).trans hT
    have new : ObjOk X.prog X.w (upd H s.heap.objs.size (.tup [.int (i : Nat), x])) h'' s.heap.objs.size (.tup [.int (i : Nat), x]) :=
      ⟨by show 2 ≤ sizeLine; decide, [.int i tk, x'], .cons ⟨_, rfl⟩ (.cons ru .nil), ⟨_, hT2, rfl, _, rfl⟩⟩
    have I1 : Inv X pins σ (upd H s.heap.objs.size (.tup [.int (i : Nat), x])) { s with heap := h'', toks := tk + 1 } :=
      I.turnedNew (ch := [e, it]) (fun b ob hb q => (sb.2 b (fun z => hb (by simp [z]))).trans (hk b ob (fun z => hb (by simp [z])) (fun z => hb (by simp [z])) q)) hf (Nat.le_refl _) new
    refine ⟨.ref s.heap.objs.size, _, I1, rfl, ⟨_, x, rfl, I.hok.fresh (Nat.le_refl _), rfl, fun ys hy => by rw [I.tuple_inj hy hq]; exact hx⟩, ⟨⟨x', ?_⟩, st'.1.at fun o q => (sb.2 it (Ne.symm hne)).trans q, hne⟩, fun b hb => ?_⟩
    · have e1 : ((i + 1 : Nat) : Int) = (i : Int) + 1 := by omega
      rw [e1]; exact he'
    · have hb' : b < s.heap.objs.size := by
        have e' : b = e ∨ b = it := by simpa using hb
        rcases e' with z | z
        · rw [z]; exact hel
        · rw [z]; exact hil
      rw [upd_ne (Nat.ne_of_lt hb')]
      exact (hf b hb).1
  done := by
    intro X hP hw hK hc i pins s σ H E I hf st hg
    subst hP hw hK
    obtain ⟨⟨old, he⟩, hit, hne⟩ := st
    obtain ⟨xs, hq, hx⟩ := hg
    obtain ⟨its, rv, p, hz⟩ := I.tuple hq
    obtain ⟨f0, f1, f2, f3, f4, f5⟩ := hf it (by simp)
    have hl := rv.length
    have D0 : Draws X.prog X.w X.A.in1 it [it, a] 0 (fun _ _ => False) (fun _ h => h.IsTupleIter it a i ∧ h.IsTuple a its.toArray) := {
      live := fun _ _ st => let ⟨o, ho, _⟩ := st.1; ⟨o, ho⟩
      frame := fun _ _ _ st hk => ⟨st.1.at fun o e => hk it (by simp) o e, st.2.at fun o e => hk a (by simp) o e⟩
      item := fun i s Q E hi _ _ => absurd hi (Nat.not_lt_zero _)
      done := fun s Q E st hE => wpAny_nextOf_tuple_end (I.ok.hd hc) st.1 st.2 (by simp; omega) hE }
    exact wpAny_pyNext_enum_endD D0 he ⟨hit, p⟩ fun h' eb => ⟨rfl, I.turned (t' := s.toks) (fun b o hb q => eb b o hb q) f0 f1 f3 f4 f5⟩
  self := fun A i s Q E st h => let ⟨⟨_, he⟩, _⟩ := st; wpAny_pyIter_enum he h
def iEnumT (K : PySem.W.Frag) (ta : TA) : TI := fun σ H R => ta σ H fun vs H1 => ∃ a xs, vs = [.ref a] ∧ SqT K H1 a xs ∧ R (IteT K a) H1
theorem pi_enumT {X : Cx} {e : Expr} {ta : TA} {p pos tpos : Pos} {elts : List Expr} {kk : Nat} (hg : Gl X "enumerate") (hm : X.mg "enumerate" = none) (ha : PA X [e] ta) (hs : starEach [e] X.env = [(false, eval e X.env)] := by rfl) :
    PI X (.Tuple elts kk tpos) (.Call (.Name "enumerate" p) [e] [] pos) (iEnumT X.K ta) := by
  refine ⟨fun pins s σ H R I h => ?_⟩
  refine Call_ (ld_blt I hg hm boot_enumerate (PyProof.Rows.callWith_type1 (thn (ha.run pos pins s σ H _ I h) fun us s1 ⟨vs, H1, I1, r1, q1⟩ => ?_) hs rfl))
  obtain ⟨a, xs, ex, hq, q⟩ := q1
  subst ex
  cases r1 with
  | cons r rr =>
    cases rr
    cases r
    obtain ⟨its, rv, p', hz⟩ := I1.tuple hq
    have p2 : s1.heap.IsTuple a its.toArray := p'
    refine gn_enum_tuple p2 fun h' he hit hk => wpAny_pyIter_enum he ?_
    have I2 : Inv X pins σ H1 { s1 with heap := h' } := I1.kept (t' := s1.toks) hk
    refine ⟨s1.heap.objs.size + 1, [s1.heap.objs.size + 1, s1.heap.objs.size], _, _, H1, rfl, I2, turn_enumT a (s1.heap.objs.size + 1) s1.heap.objs.size, ⟨⟨.none, he⟩, hit, Nat.succ_ne_self _⟩, fun b hb => ?_, q⟩
    have e' : b = s1.heap.objs.size + 1 ∨ b = s1.heap.objs.size := by simpa using hb
    have hle : s1.heap.objs.size ≤ b := by
      rcases e' with z | z
      · rw [z]; exact Nat.le_add_right _ _
      · rw [z]; exact Nat.le_refl _
    exact I1.fpOk hle (I1.hok.fresh hle)
end Gn

set_option maxHeartbeats 1000000
/-! The engine, part 5: slots, targets, sources. -/
namespace Gn
open PySem PySem.Spec PyProof.Rows L2 RZ

/-! ### slots -/
structure RepS (K : PySem.W.Frag) (H : Hp) (ι : List Addr) (σ : Sg) (ρ : L2.St) : Prop where
  len : ρ.length = σ.length
  at_ : ∀ (i : Nat) (t : T), σ[i]? = some (some t) → ∃ v, ρ[i]? = some (some v) ∧ Rep K H ι t v
section
variable {K : PySem.W.Frag} {C : Tx} {H H' : Hp} {ι ι' : List Addr} {h h' : Hi} {σ σ' : Sg} {ρ : L2.St}
theorem To.repS (s : SR C ι h H) (a : To C ι H ι' h' H') (r : RepS C.K H ι σ ρ) : RepS C.K H' ι' σ ρ :=
  ⟨r.len, fun i t e => let ⟨v, e1, q⟩ := r.at_ i t e; ⟨v, e1, a.rep s q⟩⟩
theorem RepS.set (r : RepS K H ι σ ρ) (i : Nat) {t : T} {v : V} (q : Rep K H ι t v) : RepS K H ι (σ.set i (some t)) (ρ.set i (some v)) := by
  refine ⟨by simp [r.len], fun j u e => ?_⟩
  by_cases hj : j = i
  · subst hj
    have hl : j < σ.length := by
      have := (List.getElem?_eq_some_iff.mp e).1
      simpa using this
    rw [List.getElem?_set_self hl] at e
    cases e
    exact ⟨v, List.getElem?_set_self (by rw [r.len]; exact hl), q⟩
  · rw [List.getElem?_set_ne (Ne.symm hj)] at e
    obtain ⟨w, e1, q1⟩ := r.at_ j u e
    exact ⟨w, by rw [List.getElem?_set_ne (Ne.symm hj)]; exact e1, q1⟩
theorem wipeS_len (σ : Sg) : ∀ vs : List Nat, (wipeS σ vs).length = σ.length
  | [] => rfl
  | v :: vs => by unfold wipeS; rw [List.length_set, wipeS_len σ vs]
theorem wipeS_some {i : Nat} {t : T} : ∀ {vs : List Nat}, (wipeS σ vs)[i]? = some (some t) → σ[i]? = some (some t) ∧ i ∉ vs
  | [], e => ⟨e, by simp⟩
  | v :: vs, e => by
    unfold wipeS at e
    by_cases hi : v = i
    · subst hi
      by_cases hv : v < (wipeS σ vs).length
      · rw [List.getElem?_set_self hv] at e; cases e
      · rw [List.getElem?_eq_none (by simpa using hv)] at e; cases e
    · rw [List.getElem?_set_ne hi] at e
      obtain ⟨h1, h2⟩ := wipeS_some e
      exact ⟨h1, by simp only [List.mem_cons, not_or]; exact ⟨fun e => hi e.symm, h2⟩⟩
theorem RepS.wipe (r : RepS K H ι σ ρ) (vs : List Nat) : RepS K H ι (wipeS σ vs) (L2.wipe ρ vs) := by
  refine ⟨by rw [wipeS_len, wipe_length, r.len], fun i t e => ?_⟩
  obtain ⟨e1, hn⟩ := wipeS_some e
  obtain ⟨v, e2, q⟩ := r.at_ i t e1
  exact ⟨v, by rw [wipe_out hn]; exact e2, q⟩
theorem start_rep {ts : List T} {vs : List V} (n : Nat) {N : List Str} (hn : N.length = n) (r : RepL K H ι ts vs) : RepS K H ι (startS n ts) (L2.start N vs) := by
  subst hn
  refine ⟨by simp [startS, L2.start, r.length], fun i t e => ?_⟩
  unfold startS at e
  unfold L2.start
  by_cases hi : i < ts.length
  · rw [List.getElem?_append_left (by simpa using hi), List.getElem?_map] at e
    cases e1 : ts[i]? with
    | none => rw [e1] at e; cases e
    | some t' =>
      rw [e1] at e; cases e
      obtain ⟨v, e2, q⟩ := r.get e1
      exact ⟨v, by rw [List.getElem?_append_left (by simpa [r.length] using hi), List.getElem?_map, e2]; rfl, q⟩
  · rw [List.getElem?_append_right (by simpa using hi), List.getElem?_replicate] at e
    split at e <;> cases e
end

/-! ### targets -/
/-- the hand layer's reading of a target -/
def tgs (f : Tg → TG) : List Tg → TGs
  | [] => gNil
  | g :: gs => gCons (f g) (tgs f gs)
def tg0 (K : PySem.W.Frag) : Tg → TG
  | .nm i => gName i
  | .tup _ => fun _ _ _ _ => False
def tg1 (K : PySem.W.Frag) : Tg → TG
  | .nm i => gName i
  | .tup gs => gTup K gs.length (tgs (tg0 K) gs)
def tg2 (K : PySem.W.Frag) : Tg → TG
  | .nm i => gName i
  | .tup gs => gTup K gs.length (tgs (tg1 K) gs)
/-- the slots outside stay -/
def Out (vs : List Nat) (ρ ρ' : L2.St) : Prop := ρ'.length = ρ.length ∧ ∀ j, j ∉ vs → ρ'[j]? = ρ[j]?
theorem Out.refl {vs : List Nat} {ρ : L2.St} : Out vs ρ ρ := ⟨rfl, fun _ _ => rfl⟩
theorem Out.trans {vs ws : List Nat} {a b c : L2.St} (h : Out vs a b) (h' : Out ws b c) : Out (vs ++ ws) a c :=
  ⟨h'.1.trans h.1, fun j hj => by
    rw [List.mem_append, not_or] at hj
    rw [h'.2 j hj.2, h.2 j hj.1]⟩
theorem Out.set {i : Nat} {ρ : L2.St} {v : Option V} : Out [i] ρ (ρ.set i v) := ⟨by simp, fun j hj => by
  rw [List.getElem?_set_ne]; intro e; exact hj (by simp [e])⟩
theorem Out.wipe {vs ws : List Nat} {a b : L2.St} (h : Out ws a b) (hs : ∀ j ∈ ws, j ∈ vs) : L2.wipe b vs = L2.wipe a vs := by
  have all : ∀ us : List Nat, (∀ j, (L2.wipe b us)[j]? = (L2.wipe a us)[j]? ∨ j ∉ us) := by
    intro us
    induction us with
    | nil => intro j; exact .inr (by simp)
    | cons u us ih =>
      intro j
      by_cases hj : j = u
      · subst hj
        refine .inl ?_
        unfold L2.wipe
        by_cases hl : j < a.length
        · rw [List.getElem?_set_self (by rw [wipe_length, h.1]; exact hl), List.getElem?_set_self (by rw [wipe_length]; exact hl)]
        · rw [List.getElem?_eq_none (by rw [List.length_set, wipe_length, h.1]; omega), List.getElem?_eq_none (by rw [List.length_set, wipe_length]; omega)]
      · unfold L2.wipe
        rw [List.getElem?_set_ne (Ne.symm hj), List.getElem?_set_ne (Ne.symm hj)]
        rcases ih j with e | e
        · exact .inl e
        · exact .inr (by simp only [List.mem_cons, not_or]; exact ⟨hj, e⟩)
  refine List.ext_getElem? fun j => ?_
  rcases all vs j with e | e
  · exact e
  · rw [wipe_out e, wipe_out e]
    exact h.2 j fun hm => e (hs j hm)
section
variable {C : Tx} {H : Hp} {ι : List Addr} {h : Hi}
/-- what a target's reading asks, from the interpreter's binding -/
def BindOk (K : PySem.W.Frag) (f : Tg → T → Sg → Option Sg) (g : Tg → TG) (sl : Tg → List Nat) : Prop := ∀ (tg : Tg) (H : Hp) (ι : List Addr) (t : T) (v : V) (σ σ' : Sg) (ρ : L2.St) (Q : L2.St → Hp → Prop), f tg t σ = some σ' → Rep K H ι t v → RepS K H ι σ ρ →
  (∀ ρ', RepS K H ι σ' ρ' → Out (sl tg) ρ ρ' → Q ρ' H) → g tg v ρ H Q
theorem setS_ok {K : PySem.W.Frag} {i : Nat} {t : T} {v : V} {σ σ' : Sg} {ρ : L2.St} (e : setS σ i t = some σ') (r : Rep K H ι t v) (rs : RepS K H ι σ ρ) : RepS K H ι σ' (ρ.set i (some v)) := by
  obtain ⟨_, e⟩ := bif_some (show (bif Nat.blt i σ.length then some (σ.set i (some t)) else none) = some σ' from e)
  subst e
  exact rs.set i r
theorem bindL_ok {K : PySem.W.Frag} {f : Tg → T → Sg → Option Sg} {g : Tg → TG} {sl : Tg → List Nat} (b : BindOk K f g sl) : ∀ (gs : List Tg) (ts : List T) (vs : List V) (σ σ' : Sg) (ρ : L2.St) (H : Hp) (ι : List Addr) (Q : L2.St → Hp → Prop),
    bindL f gs ts σ = some σ' → RepL K H ι ts vs → RepS K H ι σ ρ → (∀ ρ', RepS K H ι σ' ρ' → Out (gs.flatMap sl) ρ ρ' → Q ρ' H) → vs.length = gs.length ∧ tgs g gs vs ρ H Q := by
  intro gs
  induction gs with
  | nil =>
    intro ts vs σ σ' ρ H ι Q e r rs k
    cases ts with
    | nil => cases r; cases e; exact ⟨rfl, rfl, k ρ rs Out.refl⟩
    | cons _ _ => cases e
  | cons g1 gs ih =>
    intro ts vs σ σ' ρ H ι Q e r rs k
    cases ts with
    | nil => cases e
    | cons t ts =>
      cases r with
      | cons r1 r2 =>
        unfold bindL at e
        split at e
        · rename_i σ1 e1
          have hl : ∀ ρ, RepS K H ι σ1 ρ → _ := fun ρ1 rs1 => ih ts _ σ1 σ' ρ1 H ι (fun _ _ => True) e r2 rs1 fun _ _ _ => trivial
          refine ⟨?_, _, _, rfl, b g1 H ι t _ σ σ1 ρ _ e1 r1 rs fun ρ1 rs1 o1 => (ih ts _ σ1 σ' ρ1 H ι Q e r2 rs1 fun ρ2 rs2 o2 => k ρ2 rs2 (by rw [List.flatMap_cons]; exact o1.trans o2)).2⟩
          -- the length, by any slots
          have key : ∀ (gs : List Tg) (ts : List T) (σ σ' : Sg), bindL f gs ts σ = some σ' → ts.length = gs.length := by
            intro gs
            induction gs with
            | nil => intro ts σ σ' e; cases ts with
              | nil => rfl
              | cons _ _ => cases e
            | cons g gs ih => intro ts σ σ' e; cases ts with
              | nil => cases e
              | cons t ts =>
                unfold bindL at e
                split at e
                · simp [ih _ _ _ e]
                · cases e
          simp [r2.length, key _ _ _ _ e]
        · cases e
theorem bind0_ok (K : PySem.W.Frag) : BindOk K bind0 (tg0 K) Tg.slots0 := by
  intro tg H ι t v σ σ' ρ Q e r rs k
  cases tg with
  | nm i => exact k _ (setS_ok e r rs) Out.set
  | tup _ => cases e
theorem bind1_ok (K : PySem.W.Frag) : BindOk K bind1 (tg1 K) Tg.slots1 := by
  intro tg H ι t v σ σ' ρ Q e r rs k
  cases tg with
  | nm i =>
    have e : setS σ i t = some σ' := by cases t <;> exact e
    exact k _ (setS_ok e r rs) Out.set
  | tup gs =>
    cases t with
    | tup ts =>
      obtain ⟨a, xs, rfl, st, rl⟩ := r.tupE
      obtain ⟨hl, hq⟩ := bindL_ok (bind0_ok K) gs ts xs σ σ' ρ H ι Q e rl rs k
      exact ⟨a, xs, rfl, st, hl, hq⟩
    | _ => cases e
theorem bindT_ok (K : PySem.W.Frag) : BindOk K bindT (tg2 K) Tg.slots := by
  intro tg H ι t v σ σ' ρ Q e r rs k
  cases tg with
  | nm i =>
    have e : setS σ i t = some σ' := by cases t <;> exact e
    exact k _ (setS_ok e r rs) Out.set
  | tup gs =>
    cases t with
    | tup ts =>
      obtain ⟨a, xs, rfl, st, rl⟩ := r.tupE
      obtain ⟨hl, hq⟩ := bindL_ok (bind1_ok K) gs ts xs σ σ' ρ H ι Q e rl rs k
      exact ⟨a, xs, rfl, st, hl, hq⟩
    | _ => cases e
end

/-! ### sources -/
inductive SrcAt (C : Tx) (H : Hp) (ι : List Addr) : Src → It → Prop
  | lst {i : Nat} {a : Addr} : ι[i]? = some a → SrcAt C H ι (.lst i) (Itl C.K a)
  | tup {a : Addr} {ts : List T} {xs : List V} : SqT C.K H a xs → RepL C.K H ι ts xs → SrcAt C H ι (.tup ts) (Itt C.K a)
  | rng {lo : Int} {n : Nat} : SrcAt C H ι (.rng lo n) (Itr lo n)
  | enumL {i : Nat} {a : Addr} : ι[i]? = some a → SrcAt C H ι (.enumL i) (Ite C.K a)
  | enumT {a : Addr} {ts : List T} {xs : List V} : SqT C.K H a xs → RepL C.K H ι ts xs → SrcAt C H ι (.enumT ts) (IteT C.K a)
  | zipL {i j : Nat} {a b : Addr} : ι[i]? = some a → ι[j]? = some b → SrcAt C H ι (.zipL i j) (Itz C.K a b)
  | zipT {a b : Addr} {ts us : List T} {xs ys : List V} : SqT C.K H a xs → RepL C.K H ι ts xs → SqT C.K H b ys → RepL C.K H ι us ys → SrcAt C H ι (.zipT ts us) (ItzT C.K a b)
  | str {x : Str} : SrcAt C H ι (.str x) (Its x)
  | keys {i : Nat} {a : Addr} {ob : Obj} {ws : List (Key × V)} : ι[i]? = some a → H a = some (.frz ob (.dK ws)) → SrcAt C H ι (.keys i) (Itk a ob ws)
  | items {i : Nat} {a : Addr} {ob : Obj} {ws : List (Key × V)} : ι[i]? = some a → H a = some (.frz ob (.dK ws)) → SrcAt C H ι (.items i) (Iti a ob ws)
section
variable {C : Tx} {H H' : Hp} {ι ι' : List Addr} {h h' : Hi} {src : Src} {J : It}
theorem SrcAt.to (q : SrcAt C H ι src J) (s : SR C ι h H) (a : To C ι H ι' h' H') : SrcAt C H' ι' src J := by
  cases q with
  | lst e => exact .lst (a.ids _ _ e)
  | tup e r => exact .tup (a.tups s _ _ e) (a.repL s r)
  | rng => exact .rng
  | enumL e => exact .enumL (a.ids _ _ e)
  | enumT e r => exact .enumT (a.tups s _ _ e) (a.repL s r)
  | zipL e f => exact .zipL (a.ids _ _ e) (a.ids _ _ f)
  | zipT e r e' r' => exact .zipT (a.tups s _ _ e) (a.repL s r) (a.tups s _ _ e') (a.repL s r')
  | str => exact .str
  | keys e f => exact .keys (a.ids _ _ e) (a.frz _ _ _ f)
  | items e f => exact .items (a.ids _ _ e) (a.frz _ _ _ f)
theorem SR.lst_at (s : SR C ι h H) {i : Nat} {a : Addr} {ts : List T} (hi : ι[i]? = some a) (e : h[i]? = some (.lst ts)) : ∃ vs, SqL C.K H a vs ∧ RepL C.K H ι ts vs := by
  obtain ⟨vs, q, r⟩ := s.ok i a _ hi e
  exact ⟨vs, .inl (.inl q), r⟩
theorem SR.lk_at (s : SR C ι h H) {i : Nat} {a : Addr} {ob : Obj} {ws : List (Key × V)} {kvs : List (Key × T)} (hi : ι[i]? = some a) (hf : H a = some (.frz ob (.dK ws))) (e : h[i]? = some (.lk kvs)) : RepK C.K H ι kvs ws := by
  obtain ⟨ob', ws', q, r⟩ := s.ok i a _ hi e
  rw [hf] at q
  cases q
  exact r
theorem keyT_rep {K : PySem.W.Frag} (k : Key) : Rep K H ι (keyT k) (kV k) := by
  cases k with
  | inl i => exact .int i
  | inr x => exact .str x
theorem repK_get {K : PySem.W.Frag} {κ : Type} : ∀ {kvs : List (κ × T)} {ws : List (κ × V)} {i : Nat} {p : κ × T}, RepK K H ι kvs ws → kvs[i]? = some p → ∃ v, ws[i]? = some (p.1, v) ∧ Rep K H ι p.2 v
  | _, _, _, _, .nil, e => by simp at e
  | _, _, 0, _, .cons (b := q) r _, e => by
    simp at e; subst e
    obtain ⟨k, v⟩ := q
    exact ⟨v, by rw [r.1]; rfl, r.2⟩
  | _, _, i + 1, _, .cons _ t, e => by
    obtain ⟨v, e1, q⟩ := repK_get (i := i) t (by simpa using e)
    exact ⟨v, by simpa using e1, q⟩
theorem pair_new (s : SR C ι h H) {p : Addr} {x y : V} {t u : T} (hp : H p = none) (rx : Rep C.K H ι t x) (ry : Rep C.K H ι u y) :
    To C ι H ι h (upd H p (.tup [x, y])) ∧ Rep C.K (upd H p (.tup [x, y])) ι (.tup [t, u]) (.ref p) :=
  ⟨To.tup s hp, rep_tup hp (.cons rx (.cons ry .nil))⟩
theorem next_ok {i : Nat} (s : SR C ι h H) (q : SrcAt C H ι src J) : (nextT src i h = some none → J.stop i H) ∧
    ∀ t, nextT src i h = some (some t) → J.go i H ∧ ∀ x H', J.yld i H x H' → To C ι H ι h H' ∧ Rep C.K H' ι t x := by
  cases q with
  | @lst a ad hi =>
    unfold nextT
    simp only
    split
    · rename_i ts ht
      obtain ⟨vs, hv, rl⟩ := s.lst_at hi ht
      refine ⟨fun e => ?_, fun t e => ?_⟩
      · have e1 : ts[i]? = none := Option.some.inj e
        exact ⟨vs, hv, by rw [rl.length]; exact List.getElem?_eq_none_iff.mp e1⟩
      · have e1 : ts[i]? = some t := Option.some.inj e
        obtain ⟨v, e2, r⟩ := rl.get e1
        refine ⟨⟨vs, v, hv, e2⟩, fun x H' ⟨eH, y⟩ => ?_⟩
        subst eH
        have := y vs hv
        rw [e2] at this
        cases this
        exact ⟨To.refl s, r⟩
    · exact ⟨fun e => (nomatch e), fun t e => (nomatch e)⟩
  | @tup ad ts xs st rl =>
    refine ⟨fun e => ?_, fun t e => ?_⟩
    · have e1 : ts[i]? = none := Option.some.inj e
      exact ⟨xs, st, by rw [rl.length]; exact List.getElem?_eq_none_iff.mp e1⟩
    · have e1 : ts[i]? = some t := Option.some.inj e
      obtain ⟨v, e2, r⟩ := rl.get e1
      refine ⟨⟨xs, v, st, e2⟩, fun x H' ⟨eH, y⟩ => ?_⟩
      subst eH
      have := y xs st
      rw [e2] at this
      cases this
      exact ⟨To.refl s, r⟩
  | @rng lo n =>
    unfold nextT
    simp only
    cases hb : Nat.blt i n with
    | true => exact ⟨fun e => (nomatch e), fun t e => by
        cases e
        refine ⟨Nat.blt_eq.mp hb, fun x H' ⟨eH, ex⟩ => ?_⟩
        subst eH ex
        exact ⟨To.refl s, .int _⟩⟩
    | false => exact ⟨fun _ => Nat.le_of_not_lt fun z => (by rw [Nat.blt_eq.mpr z] at hb; cases hb), fun t e => (nomatch e)⟩
  | @enumL a ad hi =>
    unfold nextT
    simp only
    split
    · rename_i ts ht
      obtain ⟨vs, hv, rl⟩ := s.lst_at hi ht
      split
      · rename_i t0 e1
        refine ⟨fun e => (nomatch e), fun t e => ?_⟩
        cases e
        obtain ⟨v, e2, r⟩ := rl.get e1
        refine ⟨⟨vs, v, hv, e2⟩, fun x H' ⟨p, y, ex, hp, eH, z⟩ => ?_⟩
        subst ex eH
        have := z vs hv
        rw [e2] at this
        cases this
        exact pair_new s hp (.int _) r
      · rename_i e1
        exact ⟨fun _ => ⟨vs, hv, by rw [rl.length]; exact List.getElem?_eq_none_iff.mp e1⟩, fun t e => (nomatch e)⟩
    · exact ⟨fun e => (nomatch e), fun t e => (nomatch e)⟩
  | @enumT ad ts xs st rl =>
    unfold nextT
    simp only
    split
    · rename_i t0 e1
      refine ⟨fun e => (nomatch e), fun t e => ?_⟩
      cases e
      obtain ⟨v, e2, r⟩ := rl.get e1
      refine ⟨⟨xs, v, st, e2⟩, fun x H' ⟨p, y, ex, hp, eH, z⟩ => ?_⟩
      subst ex eH
      have := z xs st
      rw [e2] at this
      cases this
      exact pair_new s hp (.int _) r
    · rename_i e1
      exact ⟨fun _ => ⟨xs, st, by rw [rl.length]; exact List.getElem?_eq_none_iff.mp e1⟩, fun t e => (nomatch e)⟩
  | @zipL a b ad bd hi hj =>
    unfold nextT
    simp only
    split
    · rename_i ts us ht hu
      obtain ⟨vs, hv, rl⟩ := s.lst_at hi ht
      obtain ⟨ws, hw, rm⟩ := s.lst_at hj hu
      split
      · rename_i t0 u0 e1 e2
        refine ⟨fun e => (nomatch e), fun t e => ?_⟩
        cases e
        obtain ⟨v, e3, r⟩ := rl.get e1
        obtain ⟨w, e4, r'⟩ := rm.get e2
        refine ⟨⟨vs, ws, v, w, hv, hw, e3, e4⟩, fun x H' ⟨p, y1, y2, ex, hp, eH, z1, z2⟩ => ?_⟩
        subst ex eH
        have q1 := z1 vs hv
        rw [e3] at q1
        cases q1
        have q2 := z2 ws hw
        rw [e4] at q2
        cases q2
        exact pair_new s hp r r'
      · rename_i hn
        refine ⟨fun _ => ⟨vs, ws, hv, hw, ?_⟩, fun t e => (nomatch e)⟩
        rw [rl.length, rm.length]
        cases e1 : ts[i]? with
        | none => exact .inl (List.getElem?_eq_none_iff.mp e1)
        | some t0 => cases e2 : us[i]? with
          | none => exact .inr (List.getElem?_eq_none_iff.mp e2)
          | some u0 => exact absurd e2 (hn t0 u0 e1)
    · exact ⟨fun e => (nomatch e), fun t e => (nomatch e)⟩
  | @zipT ad bd ts us xs ys st rl su rm =>
    unfold nextT
    simp only
    split
    · rename_i t0 u0 e1 e2
      refine ⟨fun e => (nomatch e), fun t e => ?_⟩
      cases e
      obtain ⟨v, e3, r⟩ := rl.get e1
      obtain ⟨w, e4, r'⟩ := rm.get e2
      refine ⟨⟨xs, ys, v, w, st, su, e3, e4⟩, fun x H' ⟨p, y1, y2, ex, hp, eH, z1, z2⟩ => ?_⟩
      subst ex eH
      have q1 := z1 xs st
      rw [e3] at q1
      cases q1
      have q2 := z2 ys su
      rw [e4] at q2
      cases q2
      exact pair_new s hp r r'
    · rename_i hn
      refine ⟨fun _ => ⟨xs, ys, st, su, ?_⟩, fun t e => (nomatch e)⟩
      rw [rl.length, rm.length]
      cases e1 : ts[i]? with
      | none => exact .inl (List.getElem?_eq_none_iff.mp e1)
      | some t0 => cases e2 : us[i]? with
        | none => exact .inr (List.getElem?_eq_none_iff.mp e2)
        | some u0 => exact absurd e2 (hn t0 u0 e1)
  | @str z =>
    unfold nextT
    simp only
    split
    · rename_i c e1
      refine ⟨fun e => (nomatch e), fun t e => ?_⟩
      cases e
      refine ⟨(Array.getElem?_eq_some_iff.mp e1).1, fun x H' ⟨eH, c', e2, ex⟩ => ?_⟩
      subst eH ex
      rw [e1] at e2
      cases e2
      exact ⟨To.refl s, .str _⟩
    · rename_i e1
      exact ⟨fun _ => Array.getElem?_eq_none_iff.mp e1, fun t e => (nomatch e)⟩
  | @keys a ad ob ws hi hf =>
    unfold nextT
    simp only
    split
    · rename_i kvs hk
      have rk := s.lk_at hi hf hk
      have hl : kvs.length = ws.length := Paired.length rk
      split
      · rename_i kv e1
        refine ⟨fun e => (nomatch e), fun t e => ?_⟩
        cases e
        obtain ⟨v, e2, r⟩ := repK_get rk e1
        refine ⟨⟨hf, (List.getElem?_eq_some_iff.mp e2).1⟩, fun x H' ⟨eH, k, v', e3, ex⟩ => ?_⟩
        subst eH ex
        rw [e2] at e3
        cases e3
        exact ⟨To.refl s, keyT_rep _⟩
      · rename_i e1
        exact ⟨fun _ => ⟨hf, by rw [← hl]; exact List.getElem?_eq_none_iff.mp e1⟩, fun t e => (nomatch e)⟩
    · exact ⟨fun e => (nomatch e), fun t e => (nomatch e)⟩
  | @items a ad ob ws hi hf =>
    unfold nextT
    simp only
    split
    · rename_i kvs hk
      have rk := s.lk_at hi hf hk
      have hl : kvs.length = ws.length := Paired.length rk
      split
      · rename_i kv e1
        refine ⟨fun e => (nomatch e), fun t e => ?_⟩
        cases e
        obtain ⟨v, e2, r⟩ := repK_get rk e1
        refine ⟨⟨hf, (List.getElem?_eq_some_iff.mp e2).1⟩, fun x H' ⟨p, k, v', e3, ex, hp, eH⟩ => ?_⟩
        subst eH ex
        rw [e2] at e3
        cases e3
        exact pair_new s hp (keyT_rep _) r
      · rename_i e1
        exact ⟨fun _ => ⟨hf, by rw [← hl]; exact List.getElem?_eq_none_iff.mp e1⟩, fun t e => (nomatch e)⟩
    · exact ⟨fun e => (nomatch e), fun t e => (nomatch e)⟩
end
end Gn

/-! sorted of tuples of numbers (also empty ones), from any source. -/
namespace Gn
open PySem PySem.Spec PySem.Calls PyProof.Rows PySem.W

section
variable {prog : Program} {w : World} {A : Around} {E : Value → Shared → Prop} {s : Shared}
theorem collect_tup {l : Addr} {vs : List Value} {Q : List Value → Shared → Prop} (hl : IsTup s.heap l vs.toArray)
    (h : ∀ h', (∀ b o, s.heap.get? b = some o → h'.get? b = some o) → Q vs { s with heap := h' }) (hsz : vs.length ≤ sizeLine) :
    wpAny (model prog w) A (collect (.ref l)) Q E s := by
  obtain ⟨o, ho, hc, n, hd⟩ := id hl
  have lt : l < s.heap.objs.size := Heap.lt_size ho
  unfold collect
  refine wpAny_bind (wpAny_runValue (codeAny_builtin entry_proto_collect' ?_))
  show wpAny _ _ (do again (.builtin "list.__iadd__" ⟨[← newList [], .ref l], []⟩)) _ _ s
  refine wpAny_bind (wpAny_newList (wpAny_pure ⟨Code.quiet_builtin _ (by decide +kernel), codeAny_builtin entry_list_iadd' ?_⟩))
  show wpAny _ _ (Builtin.List.listExtendWith (.ref s.heap.objs.size) (.ref l) (.ref s.heap.objs.size)) _ _ { s with heap := s.heap.push (seqObj "list" #[] 0) }
  unfold Builtin.List.listExtendWith
  have ho' : (s.heap.push (seqObj "list" #[] 0)).get? l = some o := Heap.get?_push_of_some _ ho
  refine wpAny_bind (wpAny_typeOf (T := "tuple") ⟨o, ho', hc⟩ ?_)
  have ht : (Value.type "tuple" == Value.type "list" || Value.type "tuple" == Value.type "tuple") = true := by rfl
  rw [if_pos (by rw [Bool.or_assoc, ht, Bool.or_true])]
  refine wpAny_bind (listItems_at ho' hd ?_)
  refine wpAny_bind (listItems_at (xs := #[]) (n := 0) (Heap.get?_push_size _ rfl) rfl ?_)
  rw [if_neg (by simp)]
  refine wpAny_bind (listUpdate_at (xs := #[]) (n := 0) (Heap.get?_push_size _ rfl) rfl ?_ (Nat.zero_le _) (by show (#[] ++ vs.toArray).size ≤ sizeLine + 1; simp only [Array.size_append, List.size_toArray, List.length_nil]; omega))
  refine wpAny_pure ?_
  show wpAny (model prog w) A (do
      let o ← load s.heap.objs.size
      match o.data with
      | .seq xs _ => pure xs.toList
      | _ => unsupported "internal:collect") Q E { s with heap := (s.heap.push (seqObj "list" #[] 0)).update s.heap.objs.size (Obj.mapSeq (· ++ vs.toArray)) }
  refine wpAny_bind (wpAny_load (get?_update_seq (Heap.get?_push_size _ rfl) _) ?_)
  have k : ∀ b o, s.heap.get? b = some o → ((s.heap.push (seqObj "list" #[] 0)).update s.heap.objs.size (Obj.mapSeq (· ++ vs.toArray))).get? b = some o := fun b o q => by
    rw [Heap.get?_update_ne _ _ _ _ (Nat.ne_of_lt (Heap.lt_size q))]
    exact Heap.get?_push_of_some _ q
  refine wpAny_pure ?_
  simpa using h _ k

/-- sorted of what is walked -/
theorem sorted_gen {x : Value} {P : List Value → Prop} {ltv : Value → Value → Bool} {Q : Value → Shared → Prop} (O : SrtO.Swo ltv) (hz : ∀ vs, P vs → vs.length ≤ sizeLine)
    (hcol : ∀ R : List Value → Shared → Prop, (∀ vs h' tk, P vs → (∀ b o, s.heap.get? b = some o → h'.get? b = some o) → R vs { s with heap := h', toks := tk }) → wpAny (model prog w) A.in1 (collect x) R E s)
    (hS : ∀ vs, P vs → 2 ≤ vs.length → ∀ (h₁ : Heap) (tk : Nat) (a : Addr), h₁.get? a = some (seqObj "list" vs.toArray 0) → (∀ b o, s.heap.get? b = some o → b ≠ a ∧ h₁.get? b = some o) → SrtO.SortableO prog w A.in1.in1 { s with heap := h₁, toks := tk } a vs ltv)
    (h : ∀ (vs out : List Value) (h1 h' : Heap) (tk : Nat) (d : Addr), P vs → SrtO.Srtd ltv out → SrtO.Stb ltv out vs → (∀ b o, s.heap.get? b = some o → h1.get? b = some o) → (∀ b o, h1.get? b = some o → h'.get? b = some o) → h1.objs.size ≤ d → (∃ n, h'.get? d = some (seqObj "list" out.toArray n)) → Q (.ref d) { s with heap := h', toks := tk }) :
    wpAny (model prog w) A (call (.builtin "sorted") [x]) Q E s := by
  refine Calls.call_function_entry kind_sorted plain_sorted entry_sorted (args_sorted1 _) ?_
  unfold Builtin.«sorted»
  refine wpAny_bind (m := checkCount "sorted" 1 1 _) (wpAny_pure ?_)
  refine wpAny_bind (hcol _ fun vs h1 tk pv k1 => ?_)
  refine wpAny_bind (wpAny_newList ?_ (hz _ pv))
  have hoL : (h1.push (seqObj "list" vs.toArray 0)).get? h1.objs.size = some (seqObj "list" vs.toArray 0) := Heap.get?_push_size _ rfl
  have keep : ∀ b o, s.heap.get? b = some o → b ≠ h1.objs.size ∧ (h1.push (seqObj "list" vs.toArray 0)).get? b = some o := fun b o q =>
    ⟨Nat.ne_of_lt (Heap.lt_size (k1 b o q)), Heap.get?_push_of_some _ (k1 b o q)⟩
  show wpAny _ _ _ _ _ { s with heap := h1.push (seqObj "list" vs.toArray 0), toks := tk }
  refine wpAny_bind (wpAny_holding (wpAny_call_entry slot_list_sort ⟨_, hoL, rfl⟩ entry_list_sort (SrtO.list_sort_ord (s := { s with heap := h1.push (seqObj "list" vs.toArray 0), toks := tk }) O hoL (hz _ pv) (fun h2 => hS _ pv h2 _ tk _ hoL keep) fun out hs hb => ⟨_, rfl, ?_⟩) (args_list_sort _)))
  obtain ⟨e', he'⟩ := PyProof.Rows.sortedHeap_at (vs := vs) (out := out.toArray) hoL
  refine wpAny_pure ⟨_, rfl, h vs out h1 _ tk _ pv hs hb k1 (fun b o q1 => ?_) (Nat.le_refl _) ⟨e', he'⟩⟩
  have hlt : b < h1.objs.size := Heap.lt_size q1
  rw [sortedHeap_old (Nat.ne_of_lt hlt) (by rw [size_push']; exact Nat.lt_succ_of_lt hlt)]
  exact Heap.get?_push_of_some _ q1

/-! ### tuples of numbers -/
/-- v is a tuple of these numbers -/
def TupIs (h : Heap) (v : Value) (ns : List Int) : Prop := ∃ (a : Addr) (items : Array Value), v = .ref a ∧ IsTup h a items ∧ IntsAre items.toList ns
theorem TupIs.keeps {h h' : Heap} {v : Value} {ns : List Int} (x : TupIs h v ns) (k : ∀ b o, h.get? b = some o → o.cls = .type "tuple" → h'.get? b = some o) : TupIs h' v ns := by
  obtain ⟨a, items, e, ⟨o, ho, hc, n, hd⟩, i⟩ := x
  exact ⟨a, items, e, ⟨o, k _ _ ho hc, hc, n, hd⟩, i⟩
theorem TupIs.type {M : Model} {h : Heap} {v : Value} {ns : List Int} (x : TupIs h v ns) : Looks M h (typeOf v) (.type "tuple") := by
  obtain ⟨a, items, rfl, ⟨o, ho, hc, n, hd⟩, i⟩ := x
  rw [← hc]
  exact (Looks.ld ho).andThen .now
theorem firsts_all : ∀ (vs : List Value) (k : Value → List Int), (∀ v ∈ vs, TupIs s.heap v (k v)) → ∃ fs : List (Option Value), fs.length = vs.length ∧ (∀ z, some z ∈ fs → ∃ i t, z = Value.int i t) ∧ (vs.map k).map (·.isEmpty) = fs.map (·.isNone) ∧
    ∀ {M : Model} {A : Around} {E : Value → Shared → Prop} {Q : List (Option Value) → Shared → Prop}, Q fs s → wpAny M A (vs.mapM firstOfTuple') Q E s
  | [], k, _ => ⟨[], rfl, fun z h => by simp at h, rfl, fun h => by rw [List.mapM_nil]; exact wpAny_pure h⟩
  | v :: vs, k, hv => by
    obtain ⟨fs, h1, h2, h3, h4⟩ := firsts_all vs k (fun u hu => hv u (List.mem_cons_of_mem _ hu))
    obtain ⟨a, items, rfl, ⟨o, ho, hc, n, hd⟩, hi⟩ := hv v List.mem_cons_self
    have hx : (∀ z, items[0]? = some z → ∃ i t, z = Value.int i t) ∧ (k (.ref a)).isEmpty = (items[0]?).isNone := by
      rw [← Array.getElem?_toList]
      generalize items.toList = l at hi
      generalize k (.ref a) = m at hi
      cases hi with
      | nil => exact ⟨fun z h => by simp at h, rfl⟩
      | cons x t q => exact ⟨fun z h => by simp at h; exact ⟨_, _, h.symm⟩, rfl⟩
    refine ⟨items[0]? :: fs, by simp [h1], fun z hz => ?_, by rw [List.map_cons, List.map_cons, List.map_cons, h3, hx.2], fun {M A E Q} h => ?_⟩
    · rcases List.mem_cons.mp hz with e | hz
      · exact hx.1 z e.symm
      · exact h2 z hz
    · rw [List.mapM_cons]
      refine wpAny_bind ?_
      rw [kas_first_eq]
      refine wpAny_bind (Looks.here (show Looks M s.heap (typeOf (.ref a)) o.cls from (Looks.ld ho).andThen .now) ?_)
      rw [hc, if_neg (by first | decide | simp)]
      refine wpAny_bind (listItems_at ho hd (wpAny_pure ?_))
      exact wpAny_bind (h4 (Q := fun bs s' => wpAny M A (pure (items[0]? :: bs)) Q E s') (wpAny_pure h))
theorem fs_get {fs : List (Option Value)} (h : fs.all (·.isSome) = true) : ∃ gs : List Value, fs = gs.map some := by
  induction fs with
  | nil => exact ⟨[], rfl⟩
  | cons f fs ih =>
    rw [List.all_cons, Bool.and_eq_true] at h
    obtain ⟨gs, e⟩ := ih h.2
    cases f with
    | none => cases h.1
    | some z => exact ⟨z :: gs, by rw [e]; rfl⟩
theorem kind_tups {vs : List Value} {k : Value → List Int} (h2 : 2 ≤ vs.length) (hv : ∀ v ∈ vs, TupIs s.heap v (k v)) : ∃ κ, (κ = tuples' true ∨ κ = general' ∨ κ = oneType') ∧
    ∀ {M : Model} {A : Around} {E : Value → Shared → Prop} {Q : SortKind → Shared → Prop}, Q κ s → wpAny M A (keyKind' vs.toArray) Q E s := by
  obtain ⟨fs, hl, hI, _, hw⟩ := firsts_all vs k hv
  cases hall : fs.all (·.isSome) with
  | true =>
    obtain ⟨gs, rfl⟩ := fs_get hall
    refine ⟨tuples' true, .inl rfl, fun {M A E Q} h => ?_⟩
    rw [kat_kind_eq, List.mapM_toArray, map_eq_pure_bind]
    refine wpAny_bind (wpAny_bind (hw (wpAny_pure ?_)))
    rw [if_pos (by rw [List.all_toArray]; exact hall)]
    refine wpAny_bind (wpAny_rule ?_)
    have hfm : ((gs.map some).toArray.filterMap id) = gs.toArray := by simp
    obtain ⟨g1, gr, rfl⟩ : ∃ g1 gr, gs = g1 :: gr := by
      match gs, hl with
      | g1 :: gr, _ => exact ⟨g1, gr, rfl⟩
      | [], hl => simp at hl; omega
    rw [hfm, oneTypeOnly'_eq, List.mapM_toArray, map_eq_pure_bind]
    refine wpAny_bind (wpAny_bind (wpAny_bind (kas_mapM (r := Value.type "int") _ (fun v hm Q' hq => by
      obtain ⟨i, t, rfl⟩ := hI v (List.mem_map_of_mem hm)
      exact (Looks.here (show Looks M s.heap (typeOf (.int i t)) (.type "int") from PySem.W.Looks.now) hq)) (wpAny_pure ?_))))
    have hall2 : ((List.map (fun _ => Value.type "int") (g1 :: gr)).toArray.all fun x => x == Value.type "int") = true := by
      simp only [List.all_toArray, List.all_map, List.all_eq_true]
      intro _ _
      rfl
    have h0 : (List.map (fun _ => Value.type "int") (g1 :: gr)).toArray[0]? = some (Value.type "int") := by simp
    rw [h0]
    simp only [hall2, if_true]
    have e : (Value.type "int" != Value.type "tuple") = true := by first | decide +kernel | rfl | decide
    refine wpAny_pure ?_
    show wpAny M A (pure (tuples' (Value.type "int" != Value.type "tuple"))) Q E s
    rw [e]
    exact wpAny_pure h
  | false =>
    cases h0 : (fs.toArray[0]?.bind id).isSome with
    | true =>
      refine ⟨general', .inr (.inl rfl), fun {M A E Q} h => ?_⟩
      rw [kat_kind_eq, List.mapM_toArray, map_eq_pure_bind]
      refine wpAny_bind (wpAny_bind (hw (wpAny_pure ?_)))
      rw [if_neg (by rw [List.all_toArray, hall]; simp), if_pos h0]
      exact wpAny_pure h
    | false =>
      refine ⟨oneType', .inr (.inr rfl), fun {M A E Q} h => ?_⟩
      rw [kat_kind_eq, List.mapM_toArray, map_eq_pure_bind]
      refine wpAny_bind (wpAny_bind (hw (wpAny_pure ?_)))
      rw [if_neg (by rw [List.all_toArray, hall]; simp), if_neg (by rw [h0]; simp)]
      obtain ⟨v1, vr, rfl⟩ : ∃ v1 vr, vs = v1 :: vr := by
        match vs, h2 with
        | v1 :: vr, _ => exact ⟨v1, vr, rfl⟩
      rw [oneTypeOnly'_eq, List.mapM_toArray, map_eq_pure_bind]
      refine wpAny_bind (wpAny_bind (wpAny_bind (kas_mapM (r := Value.type "tuple") _ (fun v hm Q' hq => (hv v hm).type.here hq) (wpAny_pure ?_))))
      have hall2 : ((List.map (fun _ => Value.type "tuple") (v1 :: vr)).toArray.all fun x => x == Value.type "tuple") = true := by
        simp only [List.all_toArray, List.all_map, List.all_eq_true]
        intro _ _
        rfl
      have h0 : (List.map (fun _ => Value.type "tuple") (v1 :: vr)).toArray[0]? = some (Value.type "tuple") := by simp
      rw [h0]
      simp only [hall2, if_true]
      exact wpAny_pure (wpAny_pure h)
/-- the walk of two tuples of numbers, as list.sort does it -/
theorem lex_walk {b : Bool} : ∀ {xs ys : List Value} {ns ms : List Int} (j : Nat) (fin : Bool), IntsAre xs ns → IntsAre ys ms → ∀ {d : Nat}, fin = decide (ns.length + d < ms.length + d) → KatLex prog w A b fin (fun r s' => s' = s ∧ r = HT.lexLt ns ms) (xs.zip ys) j s
  | _, _, _, _, j, fin, .nil, .nil, d, hf => by
    rw [List.zip_nil_left]
    exact kat_nil ⟨rfl, by rw [hf]; simp [HT.lexLt_nil_nil]⟩
  | _, _, _, _, j, fin, .nil, .cons m u hj, d, hf => by
    rw [List.zip_nil_left]
    exact kat_nil ⟨rfl, by rw [hf, HT.lexLt_nil_cons]; simp⟩
  | _, _, _, _, j, fin, .cons n t hi, .nil, d, hf => by
    rw [List.zip_nil_right]
    exact kat_nil ⟨rfl, by rw [hf, HT.lexLt_cons_nil]; simp⟩
  | _, _, _, _, j, fin, .cons (vs := xs) (ns := ns) n t hi, .cons (vs := ys) (ns := ms) m u hj, d, hf => by
    rw [List.zip_cons_cons]
    refine kat_cons (SeqAt.EqAt.int_int n t m u prog w _ _ ?_)
    refine kat_go (fun e1 => ?_) (fun e1 => ?_)
    · have ex : n = m := by simpa using e1
      refine kat_yes ?_
      have := lex_walk (b := b) (j + 1) fin hi hj (d := d + 1) (by rw [hf]; simp only [List.length_cons]; congr 1; rw [Nat.add_assoc, Nat.add_comm 1 d, Nat.add_assoc, Nat.add_comm 1 d])
      rw [HT.lexLt_cons, if_pos ex]
      exact this
    · have ex : ¬ n = m := by simpa using e1
      rw [HT.lexLt_cons, if_neg ex]
      refine kat_no ?_
      cases hb : (b && j == 0) with
      | true => exact oneLt_int ⟨rfl, rfl⟩
      | false => exact kat_one _ _ (PyProof.Rows.lt_int ⟨rfl, rfl⟩)
theorem lt_one {v u : Value} {ns ms : List Int} {Q : Bool → Shared → Prop} (hu : A.units < cLine) (hv : TupIs s.heap v ns) (hw : TupIs s.heap u ms) (h : Q (HT.lexLt ns ms) s) : wpAny (model prog w) A (oneLt' true v u) Q E s := by
  obtain ⟨l, items, rfl, hl, hi⟩ := hv
  obtain ⟨b, items2, rfl, hb, hj⟩ := hw
  have tl := hl.typeIs
  obtain ⟨⟨cls, dd, data, sl⟩, ho, hc, n, hd⟩ := id hl
  obtain ⟨⟨cls2, dd2, data2, sl2⟩, ho2, hc2, n2, hd2⟩ := id hb
  simp only at hc hd hc2 hd2
  subst hc hd hc2 hd2
  rw [oneLt'_eq]
  simp only [if_true]
  refine wpAny_bind (wpAny_cRoomFor hu ?_)
  refine wpAny_bind (wpAny_callSpecialIfBound?_slot tl PySem.F.slot_tuple_lt (call_meets PySem.F.slot_tuple_lt tl PySem.F.entry_tuple_lt (PySem.F.args_tuple_lt_2 _ _) (HT.tuple_lt_ints l b items items2 n n2 dd dd2 sl sl2 ns ms hi hj) ⟨ho, ho2, ?_⟩))
  exact wpAny_truthy_bool h
theorem cmp_tups {κ : SortKind} {vs : List Value} {k : Value → List Int} (hκ : κ = tuples' true ∨ κ = general' ∨ κ = oneType') (hu : A.units < cLine) (hv : ∀ v ∈ vs, TupIs s.heap v (k v)) : SrtO.Cmp prog w A s κ (fun p => p.1 ∈ vs) (SrtO.lt2 fun v u => HT.lexLt (k v) (k u)) := by
  intro p q hp hq
  have h1 := hv _ hp
  have h2 := hv _ hq
  show wpAny (model prog w) A (keyLt' κ p.1 q.1) (fun r s' => s' = s ∧ r = HT.lexLt (k p.1) (k q.1)) (fun _ _ => False) s
  rcases hκ with rfl | rfl | rfl
  · obtain ⟨l, items, e1, ⟨o, ho, hc, n, hd⟩, hi⟩ := h1
    obtain ⟨b, items2, e2, ⟨o2, ho2, hc2, n2, hd2⟩, hj⟩ := h2
    rw [e1, e2]
    refine kat_lt ho hd ho2 hd2 ?_
    rw [← e1, ← e2]
    refine lex_walk 0 _ hi hj (d := 0) ?_
    have z1 : items.size = (k p.1).length := by rw [← hi.length]; simp
    have z2 : items2.size = (k q.1).length := by rw [← hj.length]; simp
    rw [z1, z2] <;> rfl
  · show wpAny (model prog w) A (oneLt' false p.1 q.1) _ _ s
    obtain ⟨l, items, e1, h1, hi⟩ := h1
    obtain ⟨b, items2, e2, h2, hj⟩ := h2
    refine kat_one _ _ ?_
    generalize k p.1 = ns at hi ⊢
    generalize k q.1 = ms at hj ⊢
    rw [e1, e2]
    exact HT.lt_tupInts h1 h2 hi hj hu ⟨rfl, rfl⟩
  · rw [keyLt'_oneType]
    exact lt_one hu h1 h2 ⟨rfl, rfl⟩
theorem tups_sortable {a : Addr} {vs : List Value} {k : Value → List Int} (h2 : 2 ≤ vs.length) (hu : A.units < cLine) (hv : ∀ v ∈ vs, TupIs s.heap v (k v)) (ha : ∀ o, s.heap.get? a = some o → o.cls ≠ .type "tuple") : SrtO.SortableO prog w A s a vs fun v u => HT.lexLt (k v) (k u) := by
  intro h' keep
  have hv' : ∀ v ∈ vs, TupIs h' v (k v) := fun v hm => (hv v hm).keeps fun b o e c => keep b o (fun z => by subst z; exact ha o e c) e
  obtain ⟨κ, hκ, hk⟩ := kind_tups (s := { s with heap := h' }) h2 hv'
  exact ⟨κ, fun Q E hq => hk hq, cmp_tups (s := { s with heap := h' }) hκ hu hv'⟩
end
end Gn

/-! sorted, as the engine does it. -/
namespace Gn
open PySem PySem.Spec PyProof.Rows L2

/-! ### plain -/
theorem sorted_unique {α : Type} {le : α → α → Prop} (anti : ∀ a b, le a b → le b a → a = b) : ∀ {as bs : List α}, as.Perm bs → as.Pairwise le → bs.Pairwise le → as = bs
  | [], bs, p, _, _ => (List.Perm.nil_eq p)
  | a :: as, [], p, _, _ => absurd p.length_eq (by simp)
  | a :: as, b :: bs, p, h1, h2 => by
    have ha : a ∈ b :: bs := p.mem_iff.mp List.mem_cons_self
    have hb : b ∈ a :: as := p.mem_iff.mpr List.mem_cons_self
    have e : a = b := by
      rcases List.mem_cons.mp ha with e | ha
      · exact e
      · rcases List.mem_cons.mp hb with e | hb
        · exact e.symm
        · exact anti a b ((List.pairwise_cons.mp h1).1 b hb) ((List.pairwise_cons.mp h2).1 a ha)
    subst e
    rw [sorted_unique anti (List.Perm.cons_inv p) (List.pairwise_cons.mp h1).2 (List.pairwise_cons.mp h2).2]
theorem insI_permQ (i : Int) : ∀ l : List Int, (insI i l).Perm (i :: l)
  | [] => List.Perm.refl _
  | j :: l => by
    unfold insI
    cases decide (i ≤ j) with
    | true => exact List.Perm.refl _
    | false => exact ((insI_permQ i l).cons j).trans (List.Perm.swap i j l)
theorem insI_srt (i : Int) : ∀ {l : List Int}, l.Pairwise (· ≤ ·) → (insI i l).Pairwise (· ≤ ·)
  | [], _ => List.pairwise_singleton _ _
  | j :: l, h => by
    obtain ⟨h1, h2⟩ := List.pairwise_cons.mp h
    unfold insI
    cases hd : decide (i ≤ j) with
    | true =>
      have hij := of_decide_eq_true hd
      exact List.pairwise_cons.mpr ⟨fun x hx => by
        rcases List.mem_cons.mp hx with rfl | hx
        · omega
        · have := h1 x hx; omega, h⟩
    | false =>
      have hij := of_decide_eq_false hd
      refine List.pairwise_cons.mpr ⟨fun x hx => ?_, insI_srt i h2⟩
      rcases List.mem_cons.mp ((insI_permQ i l).mem_iff.mp hx) with rfl | hx
      · omega
      · exact h1 x hx
theorem sortI_permQ : ∀ l : List Int, (sortI l).Perm l
  | [] => List.Perm.refl _
  | i :: l => (insI_permQ i (sortI l)).trans ((sortI_permQ l).cons i)
theorem sortI_srt : ∀ l : List Int, (sortI l).Pairwise (· ≤ ·)
  | [] => List.Pairwise.nil
  | i :: l => insI_srt i (sortI_srt l)
abbrev leL (a b : List Int) : Prop := HT.lexLt b a = false
theorem leL_anti : ∀ a b : List Int, leL a b → leL b a → a = b
  | [], [], _, _ => rfl
  | [], b :: bs, _, h => by rw [leL, HT.lexLt_nil_cons] at h; cases h
  | a :: as, [], h, _ => by rw [leL, HT.lexLt_nil_cons] at h; cases h
  | a :: as, b :: bs, h1, h2 => by
    rw [leL, HT.lexLt_cons] at h1 h2
    by_cases e : a = b
    · subst e
      rw [if_pos rfl] at h1 h2
      rw [leL_anti as bs h1 h2]
    · rw [if_neg (fun q => e q.symm)] at h1
      rw [if_neg e] at h2
      have a1 := of_decide_eq_false h1
      have a2 := of_decide_eq_false h2
      omega
theorem insL_perm (i : List Int) : ∀ l : List (List Int), (insL i l).Perm (i :: l)
  | [] => List.Perm.refl _
  | j :: l => by
    unfold insL
    cases HT.lexLt j i with
    | true => exact ((insL_perm i l).cons j).trans (List.Perm.swap i j l)
    | false => exact List.Perm.refl _
theorem insL_srt (i : List Int) : ∀ {l : List (List Int)}, l.Pairwise leL → (insL i l).Pairwise leL
  | [], _ => List.pairwise_singleton _ _
  | j :: l, h => by
    obtain ⟨h1, h2⟩ := List.pairwise_cons.mp h
    unfold insL
    cases hij : HT.lexLt j i with
    | false =>
      exact List.pairwise_cons.mpr ⟨fun x hx => by
        rcases List.mem_cons.mp hx with rfl | hx
        · exact hij
        · exact NtL.lex_tr _ _ _ hij (h1 x hx), h⟩
    | true =>
      refine List.pairwise_cons.mpr ⟨fun x hx => ?_, insL_srt i h2⟩
      rcases List.mem_cons.mp ((insL_perm i l).mem_iff.mp hx) with rfl | hx
      · exact NtL.lex_asym _ _ hij
      · exact h1 x hx
theorem sortL_perm : ∀ l : List (List Int), (sortL l).Perm l
  | [] => List.Perm.refl _
  | i :: l => (insL_perm i (sortL l)).trans ((sortL_perm l).cons i)
theorem sortL_srt : ∀ l : List (List Int), (sortL l).Pairwise leL
  | [] => List.Pairwise.nil
  | i :: l => insL_srt i (sortL_srt l)

section
variable {X : Cx} {pins : List (Addr × Obj)} {s : Shared} {σ : L2.St} {H : Hp} {ι : List Addr} {h : Hi}
theorem mapI_eq : ∀ {ts : List T} {is : List Int}, mapI ts = some is → ts = is.map .int
  | [], _, e => by cases e; rfl
  | .int i :: ts, is, e => by
    simp only [mapI] at e
    split at e
    · rename_i js e1
      cases e
      rw [mapI_eq e1]; rfl
    · cases e
  | .ref _ :: ts, is, e => by simp [mapI] at e
  | .non :: ts, is, e => by simp [mapI] at e
  | .bl _ :: ts, is, e => by simp [mapI] at e
  | .tup _ :: ts, is, e => by simp [mapI] at e
  | .str _ :: ts, is, e => by simp [mapI] at e
  | .tz _ :: ts, is, e => by simp [mapI] at e
/-- the values of tuples of numbers -/
theorem tups_of (I : Inv X pins σ H s) : ∀ {iss : List (List Int)} {ts : List T} {xs : List V} {its : List Value}, mapII ts = some iss → RepL X.tx.K H ι ts xs → Vals xs its →
    ts = iss.map tupI ∧ ∀ v ∈ its, ∃ a ns, v = .ref a ∧ ns ∈ iss ∧ Rep X.tx.K H ι (tupI ns) (.ref a) ∧ TupIs s.heap v ns
  | iss, [], xs, its, e, rl, rv => by
    cases e; cases rl; cases rv
    exact ⟨rfl, fun v hv => by simp at hv⟩
  | iss, .tup us :: ts, xs, its, e, rl, rv => by
    simp only [mapII] at e
    split at e
    · rename_i is iss2 e1 e2
      cases e
      cases rl with
      | cons r1 r2 =>
        cases rv with
        | cons v1 v2 =>
          obtain ⟨i1, i2⟩ := tups_of I e2 r2 v2
          obtain ⟨a, zs, rfl, st, lz⟩ := r1.tupE
          have ez := mapI_ok e1 lz
          subst ez
          obtain rfl : _ = Value.ref a := v1
          obtain ⟨it2, rr, pp, hz⟩ := I.tuple st
          have eu := mapI_eq e1
          subst eu
          refine ⟨by rw [i1]; rfl, fun v hv => ?_⟩
          rcases List.mem_cons.mp hv with rfl | hv
          · exact ⟨a, is, rfl, List.mem_cons_self, .tup st lz, a, _, rfl, pp, by simpa using rr.ints⟩
          · obtain ⟨a, ns, h1, h2, h3, h4⟩ := i2 v hv
            exact ⟨a, ns, h1, List.mem_cons_of_mem _ h2, h3, h4⟩
    · cases e
  | iss, .ref _ :: ts, xs, its, e, rl, rv => by simp [mapII] at e
  | iss, .non :: ts, xs, its, e, rl, rv => by simp [mapII] at e
  | iss, .bl _ :: ts, xs, its, e, rl, rv => by simp [mapII] at e
  | iss, .int _ :: ts, xs, its, e, rl, rv => by simp [mapII] at e
  | iss, .str _ :: ts, xs, its, e, rl, rv => by simp [mapII] at e
  | iss, .tz _ :: ts, xs, its, e, rl, rv => by simp [mapII] at e
open Classical in
/-- the numbers of a tuple -/
noncomputable def nsOf (h : Heap) (v : Value) : List Int := if q : ∃ ns, TupIs h v ns then Classical.choose q else []
theorem ints_inj : ∀ {vs : List Value} {ns ms : List Int}, IntsAre vs ns → IntsAre vs ms → ns = ms
  | _, _, _, .nil, .nil => rfl
  | _, _, _, .cons n t r, .cons _ _ q => by rw [ints_inj r q]
theorem TupIs.inj {h : Heap} {v : Value} {ns ms : List Int} (a : TupIs h v ns) (b : TupIs h v ms) : ns = ms := by
  obtain ⟨x, its, rfl, ⟨o, ho, hc, n, hd⟩, hi⟩ := a
  obtain ⟨y, its2, e, ⟨o2, ho2, hc2, n2, hd2⟩, hj⟩ := b
  cases e
  rw [ho] at ho2
  cases ho2
  rw [hd] at hd2
  cases hd2
  exact ints_inj hi hj
theorem nsOf_eq {h : Heap} {v : Value} {ns : List Int} (a : TupIs h v ns) : nsOf h v = ns := by
  have q : ∃ ns, TupIs h v ns := ⟨ns, a⟩
  unfold nsOf
  rw [dif_pos q]
  exact (Classical.choose_spec q).inj a
theorem vals_refs : ∀ {out : List Value}, (∀ v ∈ out, ∃ a, v = Value.ref a) → ∃ as : List Addr, out = as.map Value.ref
  | [], _ => ⟨[], rfl⟩
  | v :: out, h => by
    obtain ⟨a, rfl⟩ := h v List.mem_cons_self
    obtain ⟨as, e⟩ := vals_refs fun u hu => h u (List.mem_cons_of_mem _ hu)
    exact ⟨a :: as, by rw [e]; rfl⟩
theorem repL_intsQ : ∀ is : List Int, RepL X.tx.K H ι (is.map .int) (is.map V.int)
  | [] => .nil
  | i :: is => .cons (.int i) (repL_intsQ is)
theorem evs (I : Inv X pins σ H s) : ∀ {iss : List (List Int)} {ts : List T} {xs : List V} {vs : List Value}, mapII ts = some iss → RepL X.tx.K H ι ts xs → Vals xs vs → vs.map (nsOf s.heap) = iss
  | iss, [], xs, its, e, rl, rv => by
    cases e; cases rl; cases rv
    rfl
  | iss, .tup us :: ts, xs, its, e, rl, rv => by
    have e0 := e
    simp only [mapII] at e
    split at e
    · rename_i is iss2 e1 e2
      cases e
      cases rl with
      | cons r1 r2 =>
        cases rv with
        | cons v1 v2 =>
          rw [List.map_cons, evs I e2 r2 v2]
          obtain ⟨a, zs, rfl, st, lz⟩ := r1.tupE
          have ez := mapI_ok e1 lz
          subst ez
          obtain rfl : _ = Value.ref a := v1
          obtain ⟨it2, rr, pp, hz⟩ := I.tuple st
          rw [nsOf_eq ⟨a, _, rfl, pp, by simpa using rr.ints⟩]
    · cases e
  | iss, .ref _ :: ts, xs, its, e, rl, rv => by simp [mapII] at e
  | iss, .non :: ts, xs, its, e, rl, rv => by simp [mapII] at e
  | iss, .bl _ :: ts, xs, its, e, rl, rv => by simp [mapII] at e
  | iss, .int _ :: ts, xs, its, e, rl, rv => by simp [mapII] at e
  | iss, .str _ :: ts, xs, its, e, rl, rv => by simp [mapII] at e
  | iss, .tz _ :: ts, xs, its, e, rl, rv => by simp [mapII] at e
/-- sorted, given what is walked -/
theorem sort_case (hu : X.A.units + 65 < cLine) (I : Inv X pins σ H s) (sr : SR X.tx ι h H) {ts us : List T} {xs : List V} {u : Value} {Q : VK} (e : sortT ts = some us) (rl : RepL X.tx.K H ι ts xs) (hz : xs.length ≤ sizeLine)
    (hcol : ∀ R : List Value → Shared → Prop, (∀ vs h' tk, Vals xs vs → (∀ b o, s.heap.get? b = some o → h'.get? b = some o) → R vs { s with heap := h', toks := tk }) → wpAny (model X.prog X.w) X.A.in1 (collect u) R X.xe s)
    (k : PV X.tx ι H (.ref h.length) (h ++ [.lst us]) Q) : wpAny (model X.prog X.w) X.A (call (.builtin "sorted") [u]) (EP X pins σ Q) X.xe s := by
  have fin : ∀ (out : List Value) (h1 h' : Heap) (tk : Nat) (d : Addr) (zs : List V), (∀ b o, s.heap.get? b = some o → h1.get? b = some o) → (∀ b o, h1.get? b = some o → h'.get? b = some o) → h1.objs.size ≤ d → (∃ n, h'.get? d = some (seqObj "list" out.toArray n)) →
      Vals zs out → out.length = xs.length → RepL X.tx.K H ι us zs → EP X pins σ Q (.ref d) { s with heap := h', toks := tk } := by
    intro out h1 h' tk d zs k1 k2 hs ⟨n, hd⟩ vz hl rz
    have I1 : Inv X pins σ H { s with heap := h1, toks := tk } := I.kept (t' := tk) k1
    have hp : H d = none := I1.hok.fresh hs
    have hl2 := Vals.length vz
    exact ⟨.ref d, upd H d (.lst zs), I1.laid (t' := tk) k2 hs ⟨by omega, out, n, vz, hd⟩, rfl, k _ _ _ (To.lst sr hp rz) (rep_new sr)⟩
  have hlen : ∀ vs, Vals xs vs → vs.length ≤ sizeLine := fun vs rv => by rw [← Vals.length rv]; exact hz
  have single : ts.length < 2 → us = ts → wpAny (model X.prog X.w) X.A (call (.builtin "sorted") [u]) (EP X pins σ Q) X.xe s := by
    intro hlt he
    subst he
    refine sorted_gen (P := Vals xs) (ltv := fun _ _ => false) ⟨fun _ _ h => (nomatch h), fun _ _ _ _ _ => rfl⟩ hlen hcol (fun vs rv h2 => ?_) fun vs out h1 h' tk d rv _ hb k1 k2 hs hd => ?_
    · have a1 := Vals.length rv
      have a2 := rl.length
      omega
    · have a1 := Vals.length rv
      have a2 := rl.length
      have eo : out = vs := by
        have p := hb.perm
        match vs, a1, p with
        | [], _, p => exact List.Perm.eq_nil p
        | [v], _, p => exact List.Perm.eq_singleton p
        | _ :: _ :: _, a1, _ => simp only [List.length_cons] at a1; omega
      subst eo
      exact fin _ h1 h' tk d xs k1 k2 hs hd rv a1.symm rl
  unfold sortT at e
  split at e
  · cases e; exact single (by simp) rfl
  · cases e; exact single (by simp) rfl
  · split at e
    · rename_i is hi
      cases e
      have ex := mapI_ok hi rl
      subst ex
      refine sorted_gen (P := Vals (is.map V.int)) (ltv := SrtO.ltIv) SrtO.swo_int hlen hcol (fun vs rv h2 h₁ tk a' _ _ => SrtO.ints_sortable rv.ints h2) fun vs out h1 h' tk d rv hs hb k1 k2 hsz hd => ?_
      obtain ⟨q1, q2, q3⟩ := SrtO.ints_out rv.ints hs hb
      have eo : out.map SrtO.iv = sortI is := sorted_unique (le := (· ≤ ·)) (fun a b h1 h2 => Int.le_antisymm h1 h2) (q2.trans (sortI_permQ is).symm) q3 (sortI_srt is)
      rw [eo] at q1
      refine fin out h1 h' tk d ((sortI is).map V.int) k1 k2 hsz hd (vals_of_ints q1) ?_ (repL_intsQ _)
      rw [q1.length, (sortI_permQ is).length_eq, List.length_map]
    · split at e
      · rename_i iss hi
        cases e
        refine sorted_gen (P := Vals xs) (ltv := fun v u => HT.lexLt (nsOf s.heap v) (nsOf s.heap u)) (NtL.swo_lexL _) hlen hcol (fun vs rv h2 h₁ tk a' ho keep => ?_) fun vs out h1 h' tk d rv hs hb k1 k2 hsz hd => ?_
        · obtain ⟨_, hv⟩ := tups_of I hi rl rv
          refine tups_sortable h2 (by show X.A.units + 1 + 1 < _; omega) (fun v hm => ?_) fun o e => ?_
          · obtain ⟨a, ns, _, _, _, t⟩ := hv v hm
            rw [nsOf_eq t]
            exact t.keeps fun b o e _ => (keep b o e).2
          · rw [show h₁.get? a' = _ from ho] at e
            cases e
            show Value.type "list" ≠ Value.type "tuple"
            decide
        · obtain ⟨ets, hv⟩ := tups_of I hi rl rv
          have hvo : ∀ v ∈ out, ∃ a ns, v = .ref a ∧ ns ∈ iss ∧ Rep X.tx.K H ι (tupI ns) (.ref a) ∧ TupIs s.heap v ns := fun v hm => hv v (hb.perm.mem_iff.mp hm)
          have em := evs I hi rl rv
          have eo : out.map (nsOf s.heap) = sortL iss := by
            refine sorted_unique leL_anti (((hb.perm.map _).trans (List.Perm.of_eq em)).trans (sortL_perm iss).symm) ?_ (sortL_srt iss)
            exact List.pairwise_map.mpr (hs.imp fun {x y} h => h)
          obtain ⟨as, ea⟩ := vals_refs fun v hm => let ⟨a, _, e, _⟩ := hvo v hm; ⟨a, e⟩
          have lo : out.length = xs.length := by rw [hb.perm.length_eq, Vals.length rv]
          subst ea
          refine fin _ h1 h' tk d (as.map V.ref) k1 k2 hsz hd ?_ lo ?_
          · exact of_nts as
          · rw [← eo]
            clear eo hs hb lo hd
            induction as with
            | nil => exact .nil
            | cons a as ih =>
              refine .cons ?_ (ih fun v hm => hvo v (List.mem_cons_of_mem _ hm))
              obtain ⟨b, ns, e, _, r, t⟩ := hvo (.ref a) List.mem_cons_self
              cases e
              rw [nsOf_eq t]
              exact r
      · cases e
end
end Gn

/-! min of a list of tuples of numbers: the comparing looks at the heap, so the walk keeps what the heap held. -/
namespace Gn
open PySem PySem.Spec PyProof.Rows L2

/-- what h holds, but for the walk's own objects, h' holds too -/
def Kps (wr : List Addr) (S : Addr) (h h' : Heap) : Prop := ∀ b o, b ∉ wr → b ≠ S → h.get? b = some o → h'.get? b = some o
theorem Kps.trans {wr : List Addr} {S : Addr} {h h' h'' : Heap} (a : Kps wr S h h') (b : Kps wr S h' h'') : Kps wr S h h'' := fun x o i j e => b x o i j (a x o i j e)
theorem Kps.wr {wr : List Addr} {S : Addr} {h h' : Heap} (a : ∀ b o, b ∉ wr → h.get? b = some o → h'.get? b = some o) : Kps wr S h h' := fun x o i _ e => a x o i e
theorem Kps.upd (wr : List Addr) (S : Addr) (h : Heap) (f : Obj → Obj) : Kps wr S h (h.update S f) := fun _ _ _ j e => (Heap.get?_update_other _ _ (Ne.symm j)).trans e
section
variable {prog : Program} {w : World} {A : Around} {R : Result → Shared → Prop} {I : Addr} {fp wr : List Addr} {n : Nat} {P : Nat → Value → Prop} {St : Nat → Heap → Prop} {h0 : Heap} {bt : Nat → Nat → Bool} {S : Addr}
/-- the items are compared wherever h0's objects stand -/
abbrev CmpIn (prog : Program) (w : World) (A : Around) (wr : List Addr) (S : Addr) (h0 : Heap) (P : Nat → Value → Prop) (bt : Nat → Nat → Bool) : Prop :=
  ∀ i j x y (s : Shared) (Q : Value → Shared → Prop) (E : Value → Shared → Prop), Kps wr S h0 s.heap → P i x → P j y → Q (.bool (bt i j)) s → wpAny (model prog w) A (richCompare .Lt x y) Q E s
theorem min_go (W : Walks prog w A.in1 I fp wr n P St) (cmp : CmpIn prog w A.in1 wr S h0 P bt) (hS : S ∉ fp) (k : Nat) :
    ∀ (j : Nat) (s : Shared) (x : Value) (c : Nat), k + (j + 1) = n → St (j + 1) s.heap → Kps wr S h0 s.heap → P (argBest bt j) x → s.heap.get? S = some { cls := .type "list", dict := none, data := .seq #[x, x] c, slots := #[] } →
    (∀ v h' tk, P (argBest bt (n - 1)) v → Kps wr S s.heap h' → R (.ok (.ret v)) { s with heap := h', toks := tk }) → codeAny (model prog w) A (.builtin "min.loop" ⟨[.ref I, .none, .ref S], []⟩) R s := by
  have nw : S ∉ wr := fun m => hS (W.sub _ m)
  have nm : (toString "min" ++ toString ".loop" : String) = "min.loop" := by decide
  induction k with
  | zero =>
    intro j s x c hk st kp px ho fin
    refine codeAny_builtin F.entry_min_loop ?_
    rw [Around.under_plainId F.plain_min_loop _]
    show wpAny _ A.in1 (seqItems? (.ref S) >>= _) _ _ s
    refine wpAny_bind (wpAny_seqItems ho rfl ?_)
    show wpAny _ A.in1 (tryCatch (pyNext (.ref I)) _ >>= _) _ _ s
    have st' : St n s.heap := by rw [← hk, Nat.zero_add]; exact st
    refine wpAny_bind (wpAny_tryCatch (W.done s _ _ st' fun h1 tk k1 => ?_))
    show wpAny _ A.in1 (updateSeq S (fun _ => #[]) >>= _) _ _ _
    refine wpAny_bind (wpAny_updateSeq (k1 S _ nw ho) rfl (wpAny_bind (wpAny_letGo (wpAny_pure ?_))))
    have e : n - 1 = j := by omega
    exact fin x _ tk (by rw [e]; exact px) ((Kps.wr k1).trans (Kps.upd wr S _ _))
  | succ k ih =>
    intro j s x c hk st kp px ho fin
    refine codeAny_builtin F.entry_min_loop ?_
    rw [Around.under_plainId F.plain_min_loop _]
    show wpAny _ A.in1 (seqItems? (.ref S) >>= _) _ _ s
    refine wpAny_bind (wpAny_seqItems ho rfl ?_)
    show wpAny _ A.in1 (tryCatch (pyNext (.ref I)) _ >>= _) _ _ s
    refine wpAny_bind (wpAny_tryCatch (W.item (j + 1) s _ _ (by omega) st fun y h1 tk py st1 k1 => ?_))
    have kp1 : Kps wr S s.heap h1 := Kps.wr k1
    have ho1 := k1 S _ nw ho
    show wpAny _ A.in1 (tryCatch (holding [y, y] (richCompare .Lt y x >>= _)) _ >>= _) _ _ _
    refine wpAny_bind (wpAny_tryCatch (wpAny_holding (wpAny_bind (cmp (j + 1) (argBest bt j) y x _ _ _ (kp.trans kp1) py px ?_))))
    refine wpAny_bind (wpAny_holding (wpAny_truthy_bool ?_))
    refine wpAny_bind (wpAny_letGo (wpAny_pure ?_))
    have ab : argBest bt (j + 1) = if bt (j + 1) (argBest bt j) then j + 1 else argBest bt j := rfl
    cases hb : bt (j + 1) (argBest bt j) with
    | true =>
      rw [hb, if_pos rfl] at ab
      rw [if_pos rfl]
      refine wpAny_bind ?_
      refine wpAny_updateSeq ho1 rfl (wpAny_bind (wpAny_letGo ?_))
      rw [nm]
      exact wpAny_pure ⟨plainId_quiet F.plain_min_loop _, ih (j + 1) _ y _ (by omega) (W.frame _ _ _ st1 fun b m o e => (Heap.get?_update_other _ _ (fun z : S = b => hS (z ▸ m))).trans e) ((kp.trans kp1).trans (Kps.upd wr S _ _)) (by rw [ab]; exact py) (Heap.get?_update_self _ ho1 rfl)
        fun v h2 tk2 pv k2 => fin v h2 tk2 pv ((kp1.trans (Kps.upd wr S _ _)).trans k2)⟩
    | false =>
      rw [hb, if_neg (by decide)] at ab
      rw [if_neg (by decide)]
      refine wpAny_bind (wpAny_letGo ?_)
      rw [nm]
      exact wpAny_pure ⟨plainId_quiet F.plain_min_loop _, ih (j + 1) _ x c (by omega) st1 (kp.trans kp1) (by rw [ab]; exact px) ho1 fun v h2 tk2 pv k2 => fin v h2 tk2 pv (kp1.trans k2)⟩
theorem min_start (W : Walks prog w A.in1 I fp wr n P St) (cmp : CmpIn prog w A.in1 wr S h0 P bt) (hS : S ∉ fp) (hn : 0 < n) {s : Shared} {c : Nat} (st : St 0 s.heap) (kp : Kps wr S h0 s.heap) (ho : s.heap.get? S = some { cls := .type "list", dict := none, data := .seq #[] c, slots := #[] })
    (fin : ∀ v h' tk, P (argBest bt (n - 1)) v → Kps wr S s.heap h' → R (.ok (.ret v)) { s with heap := h', toks := tk }) : codeAny (model prog w) A (.builtin "min.loop" ⟨[.ref I, .none, .ref S], []⟩) R s := by
  have nw : S ∉ wr := fun m => hS (W.sub _ m)
  have nm : (toString "min" ++ toString ".loop" : String) = "min.loop" := by decide
  refine codeAny_builtin F.entry_min_loop ?_
  rw [Around.under_plainId F.plain_min_loop _]
  show wpAny _ A.in1 (seqItems? (.ref S) >>= _) _ _ s
  refine wpAny_bind (wpAny_seqItems ho rfl ?_)
  show wpAny _ A.in1 (tryCatch (pyNext (.ref I)) _ >>= _) _ _ s
  refine wpAny_bind (wpAny_tryCatch (W.item 0 s _ _ hn st fun y h1 tk py st1 k1 => ?_))
  have kp1 : Kps wr S s.heap h1 := Kps.wr k1
  have ho1 := k1 S _ nw ho
  show wpAny _ A.in1 (updateSeq S (fun _ => #[y, y]) >>= _) _ _ _
  refine wpAny_bind ?_
  refine wpAny_updateSeq ho1 rfl ?_
  rw [nm]
  exact wpAny_pure ⟨plainId_quiet F.plain_min_loop _, min_go W cmp hS (n - 1) 0 _ y _ (by omega) (W.frame _ _ _ st1 fun b m o e => (Heap.get?_update_other _ _ (fun z : S = b => hS (z ▸ m))).trans e) ((kp.trans kp1).trans (Kps.upd wr S _ _)) py (Heap.get?_update_self _ ho1 rfl)
    fun v h2 tk2 pv k2 => fin v h2 tk2 pv ((kp1.trans (Kps.upd wr S _ _)).trans k2)⟩
end
section
variable {prog : Program} {w : World} {A : Around} {E : Value → Shared → Prop} {s : Shared}
theorem call_min_tups {l : Addr} {vs : List Value} {k : Value → List Int} {Q : Value → Shared → Prop} (hu : A.units + 2 < cLine) (hh : A.handled = none) (hl : s.heap.IsList l vs.toArray) (hv : ∀ v ∈ vs, TupIs s.heap v (k v)) (hn : 0 < vs.length)
    (h : ∀ v h' tk, vs[argBest (fun i j => HT.lexLt (k (vs.getD i .none)) (k (vs.getD j .none))) (vs.length - 1)]? = some v → (∀ b o, s.heap.get? b = some o → h'.get? b = some o) → Q v { s with heap := h', toks := tk }) :
    wpAny (model prog w) A (call (.builtin "min") [.ref l]) Q E s := by
  have nm : (toString "min" ++ toString ".loop" : String) = "min.loop" := by decide
  have hlt : l < s.heap.objs.size := by obtain ⟨_, e, _⟩ := hl; exact Heap.lt_size e
  refine call_function_tree F.kind_min F.plain_min F.entry_min (F.args_min1 _) ?_
  show wpAny _ A.in1 (Builtin.Builtins.bindParams "min" ["key", "default"] 0 ⟨[], []⟩ >>= _) _ _ s
  refine wpAny_bind (wpAny_of_eq (show Builtin.Builtins.bindParams "min" ["key", "default"] 0 ⟨[], []⟩ = pure [none, none] from rfl) ?_)
  refine wpAny_bind (wpAny_pure ?_)
  refine wpAny_bind (wpAny_pyIter_list hl ?_)
  refine wpAny_bind (wpAny_newObj_type ?_)
  rw [nm]
  have hl2 : (s.heap.push { cls := .type "list_iterator", data := .fields #[.ref l, .int 0 0] }).IsList l vs.toArray := hl.push _
  have hz : (s.heap.push { cls := .type "list_iterator", data := .fields #[.ref l, .int 0 0] }).objs.size = s.heap.objs.size + 1 := Heap.size_push ..
  have far : ∀ {b : Addr}, b = (s.heap.push { cls := .type "list_iterator", data := .fields #[.ref l, .int 0 0] }).objs.size → b < s.heap.objs.size → False := fun {b} m q => by
    rw [hz] at m
    rw [m] at q
    exact Nat.lt_irrefl _ (Nat.lt_of_succ_lt q)
  have W := Walks.list (prog := prog) (w := w) (A := A.in1) hh s.heap.objs.size l (Nat.ne_of_lt hlt) vs.toArray
  refine wpAny_pure ⟨plainId_quiet F.plain_min_loop _, min_start (bt := fun i j => HT.lexLt (k (vs.getD i .none)) (k (vs.getD j .none))) (h0 := s.heap) W (fun i j x y s1 Q1 E1 kp px py q => ?_) (fun m => ?_) (by simpa using hn) (W.frame _ _ _ ⟨⟨_, Heap.get?_push_size _ rfl, rfl, rfl⟩, hl2⟩ fun b _ o e => Heap.get?_push_of_some _ e) (fun b o _ _ e => Heap.get?_push_of_some _ (Heap.get?_push_of_some _ e)) (Heap.get?_push_size _ rfl) fun v h' tk pv kp => ?_⟩
  · have at_ : ∀ {i : Nat} {x : Value}, vs.toArray[i]? = some x → vs.getD i .none = x ∧ TupIs s1.heap x (k x) := fun {i x} px => by
      have px : vs[i]? = some x := by simpa using px
      refine ⟨by rw [List.getD_eq_getElem?_getD, px]; rfl, (hv x (List.mem_of_getElem? px)).keeps fun b o e _ => kp b o (fun m => ?_) (fun m => ?_) e⟩
      · exact Nat.lt_irrefl _ ((List.mem_singleton.mp m) ▸ Heap.lt_size e)
      · exact far m (Heap.lt_size e)
    obtain ⟨e1, l1, its1, ex, t1, n1⟩ := at_ px
    obtain ⟨e2, l2, its2, ey, t2, n2⟩ := at_ py
    dsimp only at q
    rw [e1, e2] at q
    generalize k x = ns at n1 q
    generalize k y = ms at n2 q
    subst ex ey
    exact (HT.lt_tupInts t1 t2 n1 n2 (by show A.units + 1 < _; omega) q : wpAny (model prog w) A.in1 (compareOp .Lt (.ref l1) (.ref l2)) Q1 E1 s1)
  · have m : (s.heap.push { cls := .type "list_iterator", data := .fields #[.ref l, .int 0 0] }).objs.size ∈ [s.heap.objs.size, l] := m
    rw [hz] at m
    rcases List.mem_cons.mp m with m | m
    · exact Nat.succ_ne_self _ m
    · rw [← List.mem_singleton.mp m] at hlt
      exact Nat.lt_irrefl _ (Nat.lt_of_succ_lt hlt)
  · refine h v h' tk (by simpa using pv) fun b o e => kp b o (fun m => ?_) (fun m => ?_) (Heap.get?_push_of_some _ (Heap.get?_push_of_some _ e))
    · exact Nat.lt_irrefl _ ((List.mem_singleton.mp m) ▸ Heap.lt_size e)
    · exact far m (Heap.lt_size e)
end
end Gn

/-! The engine, part 6: built-ins, subscripts, stores. -/
namespace Gn
open PySem PySem.Spec PyProof.Rows L2

/-! ### the callee of a built-in -/
def BI.name : BI → Str
  | .len => "len" | .all => "all" | .any => "any" | .sum => "sum" | .abs => "abs" | .int => "int" | .list => "list" | .tuple => "tuple" | .sorted => "sorted"
  | .min => "min" | .max => "max" | .isi _ => "isinstance" | .repr => "repr" | .bool => "bool"
def BI.val : BI → Value
  | .len => .builtin "len" | .all => .builtin "all" | .any => .builtin "any" | .sum => .builtin "sum" | .abs => .builtin "abs" | .int => .type "int" | .list => .type "list"
  | .tuple => .type "tuple" | .sorted => .builtin "sorted" | .min => .builtin "min" | .max => .builtin "max" | .isi _ => .builtin "isinstance" | .repr => .builtin "repr" | .bool => .type "bool"

theorem insI_perm (i : Int) : ∀ l : List Int, (insI i l).Perm (i :: l)
  | [] => .refl _
  | j :: js => by
    unfold insI
    cases decide (i ≤ j) with
    | true => exact .refl _
    | false => exact ((insI_perm i js).cons j).trans (List.Perm.swap i j js)
theorem sortI_perm : ∀ l : List Int, (sortI l).Perm l
  | [] => .refl _
  | i :: l => (insI_perm i (sortI l)).trans ((sortI_perm l).cons i)
theorem insI_sorted (i : Int) : ∀ l : List Int, l.Pairwise (· ≤ ·) → (insI i l).Pairwise (· ≤ ·)
  | [], _ => by simp [insI]
  | j :: js, h => by
    obtain ⟨h1, h2⟩ := List.pairwise_cons.mp h
    unfold insI
    cases e : decide (i ≤ j) with
    | true =>
      have hij : i ≤ j := of_decide_eq_true e
      refine List.pairwise_cons.mpr ⟨fun k hk => ?_, h⟩
      rcases List.mem_cons.mp hk with rfl | hk
      · exact hij
      · exact Int.le_trans hij (h1 k hk)
    | false =>
      have hij : ¬ i ≤ j := of_decide_eq_false e
      refine List.pairwise_cons.mpr ⟨fun k hk => ?_, insI_sorted i js h2⟩
      rcases List.mem_cons.mp ((insI_perm i js).mem_iff.mp hk) with rfl | hk
      · omega
      · exact h1 k hk
theorem sortI_sorted : ∀ l : List Int, (sortI l).Pairwise (· ≤ ·)
  | [] => .nil
  | i :: l => insI_sorted i _ (sortI_sorted l)
theorem sorted_uniq : ∀ {l m : List Int}, l.Perm m → l.Pairwise (· ≤ ·) → m.Pairwise (· ≤ ·) → l = m := fun p hl hm =>
  p.eq_of_pairwise (fun a b _ _ h1 h2 => Int.le_antisymm h1 h2) hl hm
theorem sumI_eq : ∀ l : List Int, sumI l = l.sum
  | [] => rfl
  | i :: l => by rw [List.sum_cons, ← sumI_eq l]; rfl
theorem minI_spec : ∀ {l : List Int} {m : Int}, minI l = some m → m ∈ l ∧ ∀ k ∈ l, m ≤ k
  | [], _, e => by cases e
  | i :: l, m, e => by
    unfold minI at e
    cases h : minI l with
    | none =>
      rw [h] at e; cases e
      cases l with
      | nil => simp
      | cons j js => unfold minI at h; split at h <;> cases h
    | some j =>
      rw [h] at e; cases e
      obtain ⟨h1, h2⟩ := minI_spec h
      cases d : decide (i ≤ j) with
      | true =>
        have hij : i ≤ j := of_decide_eq_true d
        refine ⟨List.mem_cons_self, fun k hk => ?_⟩
        rcases List.mem_cons.mp hk with rfl | hk
        · exact Int.le_refl _
        · exact Int.le_trans hij (h2 k hk)
      | false =>
        have hij : ¬ i ≤ j := of_decide_eq_false d
        refine ⟨List.mem_cons_of_mem _ h1, fun k hk => ?_⟩
        rcases List.mem_cons.mp hk with rfl | hk
        · show j ≤ k; omega
        · exact h2 k hk
theorem maxI_spec : ∀ {l : List Int} {m : Int}, maxI l = some m → m ∈ l ∧ ∀ k ∈ l, k ≤ m
  | [], _, e => by cases e
  | i :: l, m, e => by
    unfold maxI at e
    cases h : maxI l with
    | none =>
      rw [h] at e; cases e
      cases l with
      | nil => simp
      | cons j js => unfold maxI at h; split at h <;> cases h
    | some j =>
      rw [h] at e; cases e
      obtain ⟨h1, h2⟩ := maxI_spec h
      cases d : decide (j ≤ i) with
      | true =>
        have hij : j ≤ i := of_decide_eq_true d
        refine ⟨List.mem_cons_self, fun k hk => ?_⟩
        rcases List.mem_cons.mp hk with rfl | hk
        · exact Int.le_refl _
        · exact Int.le_trans (h2 k hk) hij
      | false =>
        have hij : ¬ j ≤ i := of_decide_eq_false d
        refine ⟨List.mem_cons_of_mem _ h1, fun k hk => ?_⟩
        rcases List.mem_cons.mp hk with rfl | hk
        · show k ≤ j; omega
        · exact h2 k hk
theorem allB_eq : ∀ l : List Bool, allB l = l.all id
  | [] => rfl
  | b :: l => by unfold allB; rw [allB_eq l]; rfl
theorem anyB_eq : ∀ l : List Bool, anyB l = l.any id
  | [] => rfl
  | b :: l => by unfold anyB; rw [anyB_eq l]; rfl

section
variable {K : PySem.W.Frag} {C : Tx} {H : Hp} {ι : List Addr} {h : Hi}
theorem repL1 {t : T} {vs : List V} (r : RepL K H ι [t] vs) : ∃ v, vs = [v] ∧ Rep K H ι t v := by
  cases r with
  | cons r1 r2 => cases r2; exact ⟨_, rfl, r1⟩
theorem repL2 {t u : T} {vs : List V} (r : RepL K H ι [t, u] vs) : ∃ v w, vs = [v, w] ∧ Rep K H ι t v ∧ Rep K H ι u w := by
  cases r with
  | cons r1 r2 => cases r2 with
    | cons r2 r3 => cases r3; exact ⟨_, _, rfl, r1, r2⟩
theorem repL_ints : ∀ ns : List Int, RepL K H ι (ns.map T.int) (ns.map V.int)
  | [] => .nil
  | i :: ns => .cons (.int i) (repL_ints ns)
theorem repL_keys {kvs : List (Key × T)} {ws : List (Key × V)} (r : RepK K H ι kvs ws) : RepL K H ι (kvs.map fun kv => keyT kv.1) (ws.map fun kv => kV kv.1) := by
  induction r with
  | nil => exact .nil
  | cons h1 _ ih =>
    refine .cons ?_ ih
    show Rep K H ι (keyT _) (kV _)
    rw [h1.1]
    exact keyT_rep _
theorem seqT_ok (s : SR C ι h H) {t : T} {ts : List T} {v : V} (e : seqT h t = some ts) (r : Rep C.K H ι t v) : ∃ a vs, v = .ref a ∧ RepL C.K H ι ts vs ∧ ((∃ us, t = .tup us ∧ us = ts ∧ SqT C.K H a vs) ∨ (∃ i, t = .ref i ∧ H a = some (.lst vs) ∧ h[i]? = some (.lst ts) ∧ ι[i]? = some a)) := by
  unfold seqT at e
  split at e
  · cases e
    obtain ⟨a, xs, rfl, st, rl⟩ := r.tupE
    exact ⟨a, xs, rfl, rl, .inl ⟨_, rfl, rfl, st⟩⟩
  · rename_i i
    split at e
    · rename_i us hu
      cases e
      obtain ⟨a, vs, rfl, hi, ha, rl⟩ := s.lst r hu
      exact ⟨a, vs, rfl, rl, .inr ⟨i, rfl, ha, hu, hi⟩⟩
    · cases e
  · cases e
theorem sqL_of {a : Addr} {xs : List V} (h : H a = some (.lst xs)) : SqL K H a xs := .inl (.inl h)
end

section
variable {X : Cx}
abbrev rBi (C : Tx) (b : BI) : List V → Hp → VK → Prop := fun vs H Q => ∃ ι h ts t h', SR C ι h H ∧ RepL C.K H ι ts vs ∧ biT b ts h = some (t, h') ∧ PV C ι H t h' Q
theorem paired_of {α β : Type} {R : α → β → Prop} : ∀ {xs : List α} {us : List β}, xs.length = us.length → (∀ (i : Nat) x u, xs[i]? = some x → us[i]? = some u → R x u) → Paired R xs us
  | [], [], _, _ => .nil
  | [], _ :: _, e, _ => by simp at e
  | _ :: _, [], e, _ => by simp at e
  | x :: xs, u :: us, e, h => .cons (h 0 x u rfl rfl) (paired_of (by simpa using e) fun i x u e1 e2 => h (i + 1) x u (by simpa using e1) (by simpa using e2))
theorem sorted_ok (hc : X.calm = true) (hu : X.A.units + 65 < cLine) : CallR X (.builtin "sorted") (rBi X.tx .sorted) := by
  intro pins s σ H vs us Q I rv ⟨ι, h, ts, t, h', sr, rl, e, k⟩
  match ts, rl, e with
  | [], _, e => simp [biT] at e
  | _ :: _ :: _, _, e => simp [biT] at e
  | [x], rl, e =>
    simp only [biT] at e
    split at e
    · rename_i ts1 e1
      have hsm : small ts1.length = true := by
        cases hsm : small ts1.length with
        | true => rfl
        | false => rw [hsm] at e; cases e
      rw [hsm] at e
      have hz := small_ok hsm
      dsimp only [cond] at e
      split at e
      · rename_i us1 e2
        cases e
        obtain ⟨v, rfl, r⟩ := repL1 rl
        obtain ⟨u, rfl, rx⟩ := vals1 rv
        unfold itemsT at e1
        split at e1
        · cases e1
          obtain ⟨a, xs, rfl, st, rls⟩ := r.tupE
          obtain rfl : u = .ref a := rx
          obtain ⟨its, rr, pp, hzz⟩ := I.tuple st
          exact sort_case hu I sr e2 rls hzz (fun R hR => collect_tup pp (fun h' kk => hR its h' s.toks rr kk) (by rw [← Vals.length rr]; exact hzz)) k
        · split at e1
          · rename_i hl
            cases e1
            obtain ⟨a, xs, rfl, hi, ha, rls⟩ := sr.lst r hl
            obtain rfl : u = .ref a := rx
            obtain ⟨its, rr, pp, hzz⟩ := I.list (sqL_of ha)
            refine sort_case hu I sr e2 rls hzz (fun R hR => collect_list pp.isList (hR its _ s.toks rr fun b o q => ?_) (by rw [← Vals.length rr]; exact hzz)) k
            rw [Heap.get?_update_ne _ _ _ _ (Nat.ne_of_lt (Heap.lt_size q))]
            exact Heap.get?_push_of_some _ q
          · rename_i hl
            cases e1
            obtain ⟨a, ws, rfl, hi, ha, rk⟩ := sr.dk r hl
            obtain rfl : u = .ref a := rx
            obtain ⟨z, lo, vs, rel, dd⟩ := dk_of I.hok ha
            obtain ⟨ep, hat⟩ := dd.dictAt
            have hlen : ws.length = vs.length := Paired.length rel
            refine sort_case hu I sr e2 (repL_keys rk) (by rw [List.length_map]; exact z) (fun R hR => PySem.W.kdu_collect (A := X.A.in1) (PySem.W.kdl_dict (knd := mixKind X.prog X.w) (kvs := vs) (ep := ep) lo) (I.ok.hd hc) hat (by omega) fun h' tk acc hk hacc => hR _ h' tk ?_ hk) k
            refine paired_of (by have q1 := hacc.1; have q2 : acc.toList.length = acc.size := Array.length_toList; rw [List.length_map]; omega) fun i x u ex eu => ?_
            obtain ⟨kk, y, e1, e2⟩ := hacc.2 i u (by rw [← Array.getElem?_toList]; exact eu)
            rw [List.getElem?_map] at ex
            have hk2 : (ws.map (·.1))[i]? = (vs.map (·.1))[i]? := by rw [rel.keys]
            rw [List.getElem?_map, List.getElem?_map, e1] at hk2
            cases e4 : ws[i]? with
            | none => rw [e4] at ex; cases ex
            | some w =>
              rw [e4] at ex hk2
              cases ex
              have e5 : w.1 = kk := Option.some.inj hk2
              show RelV (kV w.1) u
              rw [e5]
              rcases keyIs_shape (show keyIs kk u = true from e2) with ⟨i, t, ek, ev⟩ | ⟨z, t, ek, ev⟩
              · subst ek ev; exact ⟨t, rfl⟩
              · subst ek ev; exact ⟨t, rfl⟩
          · rename_i kvs hl
            cases e1
            obtain ⟨a, xs, rfl, hi, ha, hsys, nd, rk⟩ := sr.dn r hl
            obtain rfl : u = .ref a := rx
            obtain ⟨o, es, ep, h1, h2, h3, h4⟩ := (show ∃ o es ep, s.heap.get? a = some o ∧ o.ExactDict ∧ o.data = .dict es ep ∧ es.toList = xs.map (entryOfKey (nestedKind X.prog X.w)) from by
              have := dn_of I ha nd rk
              obtain ⟨o, es, ep, h1, h2, h3, h4, _⟩ := this
              exact ⟨o, es, ep, h1, h2, h3, h4⟩)
            have hlen := Paired.length rk
            have hes : es.size = xs.length := by rw [← Array.length_toList, h4, List.length_map]
            rw [List.length_map] at hz
            have rls : RepL X.tx.K H ι (kvs.map fun kv => kv.2.1) (xs.map fun x => V.ref x.2.1) := by
              clear hl h4 hes hz hlen nd ha e2 hsm
              induction rk with
              | nil => exact .nil
              | cons h1 _ ih => exact .cons h1.2.2.1 ih
            refine sort_case hu I sr e2 rls (by rw [List.length_map]; omega) (fun R hR => PySem.W.kdu_collect (A := X.A.in1) (PySem.KdlSrc.rawDict (es := es) (ep := ep) hsys) (I.ok.hd hc) ⟨o, h1, h2, h3⟩ (by omega) fun h' tk acc hk hacc => hR _ h' tk ?_ hk) k
            refine paired_of (by have q1 := hacc.1; have q2 : acc.toList.length = acc.size := Array.length_toList; rw [List.length_map]; omega) fun i x u ex eu => ?_
            obtain ⟨hi, e1⟩ := hacc.2 i u (by rw [← Array.getElem?_toList]; exact eu)
            have q : es.toList[i]? = some es[i] := by rw [Array.getElem?_toList, Array.getElem?_eq_getElem hi]
            rw [h4, List.getElem?_map] at q
            rw [List.getElem?_map] at ex
            cases e4 : xs[i]? with
            | none => rw [e4] at ex; cases ex
            | some w =>
              rw [e4] at ex q
              cases ex
              have q2 : entryOfKey (nestedKind X.prog X.w) w = es[i] := Option.some.inj q
              rw [e1, ← q2]
              rfl
          · cases e1
        · cases e1
      · cases e
    · cases e
theorem any_tup_ok (hc : X.calm = true) : CallR X (.builtin "any") (fun vs H Q => ∃ (a : Addr) (bs : List Bool), vs = [.ref a] ∧ SqT X.K H a (bs.map V.bl) ∧ Q (.bl (bs.any id)) H) := by
  intro pins s σ H vs us Q I r h
  obtain ⟨a, bs, rfl, hs, q⟩ := h
  obtain ⟨its, rv, hl, _⟩ := I.tuple hs
  rw [Vals.ref1 r]
  have hb := rv.bls
  have hlt : a < s.heap.objs.size := by obtain ⟨_, e, _⟩ := hl; exact Heap.lt_size e
  have hl' : s.heap.IsTuple a its.toArray := hl
  refine call_any_walk (wpAny_pyIter_tuple hl' ?_)
  refine ⟨_, _, _, _, _, _, _, rfl, Walks.tuple (A := X.A.in1) (I.ok.hd hc) _ a (Nat.ne_of_lt hlt) its.toArray, ⟨⟨_, Heap.get?_push_size _ rfl, rfl, rfl⟩, hl'.push _⟩, truth_bools hb, fun h' tk hk => ?_⟩
  refine ⟨.bl _, H, I.kept fun b o eo => hk b o (fun hmem => ?_) (Heap.get?_push_of_some _ eo), ?_, q⟩
  · rcases List.mem_cons.mp hmem with e1 | hmem
    · exact absurd (e1 ▸ Heap.lt_size eo) (Nat.lt_irrefl _)
    · cases hmem
  · show Value.bool _ = Value.bool _
    rw [← L2.any_range, hb, List.size_toArray, List.length_map]
theorem minL_spec : ∀ {l : List (List Int)} {m : List Int}, minL l = some m → m ∈ l ∧ ∀ k ∈ l, HT.lexLt k m = false
  | [], m, e => by cases e
  | i :: l, m, e => by
    unfold minL at e
    cases q : minL l with
    | none =>
      rw [q] at e
      cases e
      cases l with
      | nil => exact ⟨List.mem_cons_self, fun k hk => by rw [List.mem_singleton.mp hk]; exact (NtL.swo_lexL (fun x : List Int => x)).refl _⟩
      | cons j js => unfold minL at q; split at q <;> cases q
    | some j =>
      rw [q] at e
      cases e
      obtain ⟨h1, h2⟩ := minL_spec q
      cases d : HT.lexLt j i with
      | true =>
        refine ⟨List.mem_cons_of_mem _ h1, fun k hk => ?_⟩
        rcases List.mem_cons.mp hk with rfl | hk
        · exact NtL.lex_asym _ _ d
        · exact h2 k hk
      | false =>
        refine ⟨List.mem_cons_self, fun k hk => ?_⟩
        rcases List.mem_cons.mp hk with rfl | hk
        · exact (NtL.swo_lexL (fun x : List Int => x)).refl _
        · exact NtL.lex_tr _ _ _ d (h2 k hk)
theorem argBest_spec {f : Nat → List Int} : ∀ n : Nat, argBest (fun i j => HT.lexLt (f i) (f j)) n ≤ n ∧ ∀ j, j ≤ n → HT.lexLt (f j) (f (argBest (fun i j => HT.lexLt (f i) (f j)) n)) = false
  | 0 => ⟨Nat.le_refl _, fun j hj => by rw [Nat.le_zero.mp hj]; exact (NtL.swo_lexL (fun x : List Int => x)).refl _⟩
  | n + 1 => by
    obtain ⟨h1, h2⟩ := argBest_spec (f := f) n
    have ab : argBest (fun i j => HT.lexLt (f i) (f j)) (n + 1) = if HT.lexLt (f (n + 1)) (f (argBest (fun i j => HT.lexLt (f i) (f j)) n)) then n + 1 else argBest (fun i j => HT.lexLt (f i) (f j)) n := rfl
    rw [ab]
    cases d : HT.lexLt (f (n + 1)) (f (argBest (fun i j => HT.lexLt (f i) (f j)) n)) with
    | true =>
      rw [if_pos rfl]
      refine ⟨Nat.le_refl _, fun j hj => ?_⟩
      rcases Nat.lt_or_ge j (n + 1) with hj | hj2
      · exact NtL.lex_tr _ _ _ (NtL.lex_asym _ _ d) (h2 j (Nat.le_of_lt_succ hj))
      · rw [Nat.le_antisymm hj hj2]; exact (NtL.swo_lexL (fun x : List Int => x)).refl _
    | false =>
      rw [if_neg (by decide)]
      refine ⟨Nat.le_succ_of_le h1, fun j hj => ?_⟩
      rcases Nat.lt_or_ge j (n + 1) with hj | hj2
      · exact h2 j (Nat.le_of_lt_succ hj)
      · rw [Nat.le_antisymm hj hj2]; exact d
theorem minL_ok (hc : X.calm = true) (hu : X.A.units + 65 < cLine) : CallR X (.builtin "min") (fun vs H Q => ∃ ι h ts v iss m, SR X.tx ι h H ∧ mapII ts = some iss ∧ minL iss = some m ∧ vs = [v] ∧ (∃ i, Rep X.K H ι (.ref i) v ∧ h[i]? = some (.lst ts)) ∧ PV X.tx ι H (tupI m) h Q) := by
  intro pins s σ H vs us Q I rv q0
  obtain ⟨ι, h, ts, v, iss, m, sr, e1, e2, rfl, ⟨i, r, hi⟩, k⟩ := q0
  obtain ⟨u, rfl, rx⟩ := vals1 rv
  obtain ⟨a, xs, rfl, hia, ha, rls⟩ := sr.lst r hi
  obtain rfl : u = .ref a := rx
  obtain ⟨its, rr, hl, hz⟩ := I.list (sqL_of ha)
  obtain ⟨et, hv⟩ := tups_of I e1 rls rr
  have em := evs I e1 rls rr
  obtain ⟨m1, m2⟩ := minL_spec e2
  have hlen : its.length = iss.length := by rw [← em, List.length_map]
  have hn : 0 < its.length := by rw [hlen]; exact List.length_pos_of_mem m1
  refine call_min_tups (k := nsOf s.heap) (by omega) (I.ok.hd hc) hl.isList (fun v hm => ?_) hn fun v h' tk ev kk => ?_
  · obtain ⟨a, ns, _, _, _, t⟩ := hv v hm
    rw [nsOf_eq t]
    exact t
  · obtain ⟨h1, h2⟩ := argBest_spec (f := fun i => nsOf s.heap (its.getD i .none)) (its.length - 1)
    have gd : ∀ {i : Nat} {v : Value}, its[i]? = some v → its.getD i .none = v := fun {i v} q => by rw [List.getD_eq_getElem?_getD, q]; rfl
    have q1 := gd ev
    have hm := List.mem_of_getElem? ev
    have emn : nsOf s.heap v = m := by
      refine leL_anti _ _ ?_ (m2 _ ?_)
      · obtain ⟨j, hj⟩ := List.getElem?_of_mem m1
        rw [← em, List.getElem?_map] at hj
        obtain ⟨w, hw, hw2⟩ := Option.map_eq_some_iff.mp hj
        have hjl := (List.getElem?_eq_some_iff.mp hw).1
        have := h2 j (by omega)
        rw [gd hw, q1, hw2] at this
        exact this
      · rw [← em]
        exact List.mem_map_of_mem hm
    obtain ⟨b, ns, rfl, _, rb, t⟩ := hv v hm
    rw [nsOf_eq t] at emn
    subst emn
    exact ⟨.ref b, H, I.kept (t' := tk) kk, rfl, k ι H _ (To.refl sr) rb⟩
theorem bi_ok (hc : X.calm = true) (hu : X.A.units + 65 < cLine) (b : BI) (hb : ∀ ty, b ≠ .isi ty) : CallR X b.val (rBi X.tx b) := by
  intro pins s σ H vs us Q I rv hq
  have hq0 := hq
  obtain ⟨ι, h, ts, t, h', sr, rl, e, k⟩ := hq
  unfold biT at e
  split at e
  · -- list of a list, of a dict
    obtain ⟨v, rfl, r⟩ := repL1 rl
    split at e
    · rename_i hl
      cases e
      obtain ⟨a, xs, rfl, hi, ha, rls⟩ := sr.lst r hl
      exact call_list_of pins s σ H _ us Q I rv ⟨a, xs, rfl, .inl (sqL_of ha), fun d hd => k _ _ _ (To.lst sr hd rls) (rep_new sr)⟩
    · rename_i hl
      cases e
      obtain ⟨a, ws, rfl, hi, ha, rk⟩ := sr.dk r hl
      exact call_list_dK hc pins s σ H _ us Q I rv ⟨a, ws, rfl, ha, fun d hd => k _ _ _ (To.lst sr hd (repL_keys rk)) (rep_new sr)⟩
    · cases e
  · obtain ⟨v, rfl, r⟩ := repL1 rl
    cases e
    obtain ⟨a, xs, rfl, st, rls⟩ := r.tupE
    exact call_list_of pins s σ H _ us Q I rv ⟨a, xs, rfl, .inr st, fun d hd => k _ _ _ (To.lst sr hd rls) (rep_new sr)⟩
  · -- len
    obtain ⟨v, rfl, r⟩ := repL1 rl
    split at e
    · rename_i is
      cases e
      cases r with
      | @tz a o _ hf _ => exact call_len pins s σ H _ us Q I rv ⟨_, (is.map V.int).length, rfl, .inr ⟨_, .inl (.inr ⟨o, hf⟩), rfl⟩, by rw [List.length_map]; exact k ι H _ (To.refl sr) (.int _)⟩
    · rename_i z
      obtain ⟨hz, e⟩ := bif_some e
      cases e
      exact call_len pins s σ H _ us Q I rv ⟨_, z.length, rfl, by rw [r.strE]; exact ⟨small_ok hz, rfl⟩, k ι H _ (To.refl sr) (.int _)⟩
    · cases e
      obtain ⟨a, xs, rfl, st, rls⟩ := r.tupE
      exact call_len pins s σ H _ us Q I rv ⟨_, xs.length, rfl, .inr ⟨xs, st, rfl⟩, by rw [rls.length]; exact k ι H _ (To.refl sr) (.int _)⟩
    · split at e
      · rename_i hl
        cases e
        obtain ⟨a, xs, rfl, hi, ha, rls⟩ := sr.lst r hl
        exact call_len pins s σ H _ us Q I rv ⟨_, xs.length, rfl, .inl ⟨xs, sqL_of ha, rfl⟩, by rw [rls.length]; exact k ι H _ (To.refl sr) (.int _)⟩
      · rename_i hl
        cases e
        obtain ⟨a, ws, rfl, hi, ha, rk⟩ := sr.dk r hl
        exact call_lenD pins s σ H _ us Q I rv ⟨a, ws, rfl, ha, by rw [← show _ = ws.length from Paired.length rk]; exact k ι H _ (To.refl sr) (.int _)⟩
      · rename_i hl
        obtain ⟨hz, e⟩ := bif_some e
        cases e
        obtain ⟨a, xs, rfl, hi, ha, hsys, nd, rk⟩ := sr.dn r hl
        have dd := dn_of I ha nd rk
        have hlen := Paired.length rk
        have hz := small_ok hz
        rw [sizeLine_eq] at hz
        obtain ⟨u, rfl, rx⟩ := vals1 rv
        obtain rfl : u = .ref a := rx
        refine call_len_dictH hsys dd (by omega) ⟨.int _, H, I.tok _, ⟨_, rfl⟩, ?_⟩
        rw [← hlen]
        exact k ι H _ (To.refl sr) (.int _)
      · cases e
    · cases e
  · -- all
    obtain ⟨v, rfl, r⟩ := repL1 rl
    split at e
    · rename_i hl
      split at e
      · rename_i bs hb
        cases e
        obtain ⟨a, xs, rfl, hi, ha, rls⟩ := sr.lst r hl
        have := mapB_ok hb rls
        subst this
        exact cr_all hc pins s σ H _ us Q I rv ⟨a, bs, rfl, sqL_of ha, by rw [← allB_eq]; exact k ι H _ (To.refl sr) (.bl _)⟩
      · cases e
    · cases e
  · -- any of a tuple
    obtain ⟨v, rfl, r⟩ := repL1 rl
    split at e
    · rename_i bs hb
      cases e
      obtain ⟨a, xs, rfl, st, rls⟩ := r.tupE
      have := mapB_ok hb rls
      subst this
      exact any_tup_ok hc pins s σ H _ us Q I rv ⟨a, bs, rfl, st, by rw [← anyB_eq]; exact k ι H _ (To.refl sr) (.bl _)⟩
    · cases e
  · -- any
    obtain ⟨v, rfl, r⟩ := repL1 rl
    split at e
    · rename_i hl
      split at e
      · rename_i bs hb
        cases e
        obtain ⟨a, xs, rfl, hi, ha, rls⟩ := sr.lst r hl
        have := mapB_ok hb rls
        subst this
        exact cr_any hc pins s σ H _ us Q I rv ⟨a, bs, rfl, sqL_of ha, by rw [← anyB_eq]; exact k ι H _ (To.refl sr) (.bl _)⟩
      · cases e
    · cases e
  · -- sum
    obtain ⟨v, rfl, r⟩ := repL1 rl
    split at e
    · rename_i hl
      split at e
      · rename_i is hb
        cases e
        obtain ⟨a, xs, rfl, hi, ha, rls⟩ := sr.lst r hl
        have := mapI_ok hb rls
        subst this
        exact cr_sum hc pins s σ H _ us Q I rv ⟨a, is, rfl, sqL_of ha, by rw [← sumI_eq]; exact k ι H _ (To.refl sr) (.int _)⟩
      · cases e
    · cases e
  · -- abs
    obtain ⟨v, rfl, r⟩ := repL1 rl
    cases e
    exact call_abs pins s σ H _ us Q I rv ⟨_, by rw [r.intE], k ι H _ (To.refl sr) (.int _)⟩
  · obtain ⟨v, rfl, r⟩ := repL1 rl
    cases e
    exact call_int1 pins s σ H _ us Q I rv (.inl ⟨_, by rw [r.intE], k ι H _ (To.refl sr) (.int _)⟩)
  · obtain ⟨v, rfl, r⟩ := repL1 rl
    cases e
    exact call_int1 pins s σ H _ us Q I rv (.inr ⟨_, by rw [r.blE], k ι H _ (To.refl sr) (.int _)⟩)
  · -- tuple
    obtain ⟨v, rfl, r⟩ := repL1 rl
    split at e
    · rename_i hl
      cases e
      obtain ⟨a, xs, rfl, rls, q⟩ := seqT_ok sr hl r
      refine call_tuple_of pins s σ H _ us Q I rv ⟨a, xs, rfl, ?_⟩
      rcases q with ⟨_, rfl, rfl, q⟩ | ⟨_, _, q, _⟩
      · exact .inr ⟨q, k ι H _ (To.refl sr) r⟩
      · exact .inl ⟨sqL_of q, fun d hd => k _ _ _ (To.tup sr hd) (rep_tup hd rls)⟩
    · cases e
  · exact sorted_ok hc hu pins s σ H vs us Q I rv hq0
  · obtain ⟨v, w, rfl, r, r'⟩ := repL2 rl
    cases e
    exact call_min2 hc pins s σ H _ us Q I rv ⟨_, _, by rw [r.intE, r'.intE], k ι H _ (To.refl sr) (.int _)⟩
  · obtain ⟨v, w, rfl, r, r'⟩ := repL2 rl
    cases e
    exact call_max2 hc pins s σ H _ us Q I rv ⟨_, _, by rw [r.intE, r'.intE], k ι H _ (To.refl sr) (.int _)⟩
  · -- min
    obtain ⟨v, rfl, r⟩ := repL1 rl
    split at e
    · rename_i ts' hl
      split at e
      · rename_i is hb
        split at e
        · rename_i m hm
          cases e
          obtain ⟨a, xs, rfl, hi, ha, rls⟩ := sr.lst r hl
          have := mapI_ok hb rls
          subst this
          obtain ⟨m1, m2⟩ := minI_spec hm
          refine cr_min hc pins s σ H _ us Q I rv ⟨a, is, rfl, sqL_of ha, List.length_pos_of_mem m1, fun j h1 h2 => ?_⟩
          have : j = m := Int.le_antisymm (h2 m m1) (m2 j h1)
          subst this
          exact k ι H _ (To.refl sr) (.int _)
        · cases e
      · split at e
        · rename_i iss hiss
          split at e
          · rename_i m hm
            cases e
            exact minL_ok hc hu pins s σ H _ us Q I rv ⟨ι, h, ts', v, iss, m, sr, hiss, hm, rfl, ⟨_, r, hl⟩, k⟩
          · cases e
        · cases e
    · cases e
  · rename_i ty x
    exact absurd rfl (hb ty)
  · cases e
/-! ### isinstance -/
theorem tyX_ok {C : Tx} {ι : List Addr} {h : Hi} {H : Hp} (sr : SR C ι h H) {x : T} {v : V} {ty : String} (e : tyT h x = some ty) (r : Rep C.K H ι x v) : TyX C.K H v (.type ty) := by
  unfold tyT at e
  split at e
  · cases e; rw [r.nonE]; exact .base .non
  · cases e; rw [r.blE]; exact .base (.bl _)
  · cases e; rw [r.intE]; exact .base (.int _)
  · cases e; rw [r.strE]; exact .base (.str _)
  · cases e
    obtain ⟨a, xs, rfl, st, _⟩ := r.tupE
    rcases st with (st | ⟨ob, st⟩) | ⟨o, its, n, st, hc, _⟩
    · exact .base (.tup st)
    · exact .fTuple st
    · exact .kTuple st hc
  · cases e
  · split at e
    · rename_i hl
      cases e
      obtain ⟨a, xs, rfl, hi, ha, _⟩ := sr.lst r hl
      exact .base (.lst ha)
    · rename_i hl
      cases e
      obtain ⟨a, xs, rfl, hi, ha, _⟩ := sr.dk r hl
      exact .base (.dK ha)
    · cases e
theorem isi_ok (ty : String) : CallR X (.builtin "isinstance") (fun vs H Q => ∃ ι h x v b, SR X.tx ι h H ∧ Rep X.K H ι x v ∧ vs = [v, .ty ty] ∧ isiT h x ty = some b ∧ Q (.bl b) H) := by
  intro pins s σ H vs us Q I rv hq
  obtain ⟨ι, h, x, v, b, sr, r, rfl, e, k⟩ := hq
  unfold isiT at e
  split at e
  · rename_i a ea
    exact call_isi pins s σ H _ us Q I rv ⟨v, .ty ty, .type a, .type ty, b, rfl, .ty ty, tyX_ok sr ea r, kit_ty e, k⟩
  · cases e

/-! ### subscripts -/
theorem ixT_ok {n : Nat} {i : Int} {j : Nat} (e : ixT n i = some j) : L2.ixN n i = some j := by
  unfold ixT at e
  unfold L2.ixN
  cases i with
  | ofNat k =>
    obtain ⟨h1, h2⟩ := bif_some e
    have h3 : k < n := Nat.blt_eq.mp h1
    rw [if_pos (show (0 : Int) ≤ Int.ofNat k from Int.natCast_nonneg k), if_pos (show Int.ofNat k < (n : Int) from Int.ofNat_lt.mpr h3)]
    subst h2
    rfl
  | negSucc k =>
    obtain ⟨h1, h2⟩ := bif_some e
    have h3 : k + 1 ≤ n := Nat.le_of_ble_eq_true h1
    rw [if_neg (by omega), if_pos (by omega)]
    subst h2
    congr 1
    omega
theorem atI_of {α : Type} {xs : List α} {i : Int} {j : Nat} {v : α} (e : ixT xs.length i = some j) (ev : xs[j]? = some v) : atI xs i = some v := by
  unfold atI
  rw [ixT_ok e]
  exact ev
theorem list_typeIs {pins : List (Addr × Obj)} {s : Shared} {σ : L2.St} {H : Hp} {a : Addr} {xs : List V} (I : Inv X pins σ H s) (q : SqL X.K H a xs) : s.TypeIs (.ref a) "list" := by
  obtain ⟨its, r, ⟨o, n, ho, hc, _⟩, _⟩ := I.list q
  exact ⟨o, ho, hc⟩
theorem tuple_typeIs {pins : List (Addr × Obj)} {s : Shared} {σ : L2.St} {H : Hp} {a : Addr} {xs : List V} (I : Inv X pins σ H s) (q : SqT X.K H a xs) : s.TypeIs (.ref a) "tuple" := by
  obtain ⟨its, r, ⟨o, ho, hc, _⟩, _⟩ := I.tuple q
  exact ⟨o, ho, hc⟩
/-- what is read by a place or a key -/
abbrev rIdx (C : Tx) : R2 := fun xv yv H Q => ∃ ι h x y t, SR C ι h H ∧ Rep C.K H ι x xv ∧ Rep C.K H ι y yv ∧ idxT h x y = some t ∧ PV C ι H t h Q
theorem getList {pins : List (Addr × Obj)} {s : Shared} {σ : L2.St} {H : Hp} {a : Addr} {xs : List V} {i : Int} {t : Tok} {z : V} {Q : VK} (I : Inv X pins σ H s) (hq : SqL X.K H a xs) (he : atI xs i = some z) (q : Q z H) :
    wpAny (model X.prog X.w) X.A (getItem (.ref a) (.int i t)) (EP X pins σ Q) X.xe s := by
  obtain ⟨its, r, pl, hz⟩ := I.list hq
  obtain ⟨j, h1, h2, h3, h4, h5⟩ := atI_get he
  obtain ⟨w, ew, rw'⟩ := r.get h2
  have hl := r.length
  have hn := line63
  have fin : EP X pins σ Q w s := ⟨z, H, I, rw', q⟩
  by_cases h0 : 0 ≤ i
  · have hj : i.toNat = j := by
      rw [seqIndex_of h0 h5] at h1
      exact Option.some.inj h1
    exact wpAny_getItem_list pl.isList h0 (by omega) (by rw [hj]; simpa using ew) fin
  · have hj : (i + (its.toArray.size : Int)).toNat = j := by
      rw [seqIndex_neg (by omega) h4] at h1
      rw [List.size_toArray, ← hl]
      exact Option.some.inj h1
    exact wpAny_getItem_list_neg pl.isList (by omega) (by rw [List.size_toArray] <;> omega) (by omega) (by rw [hj]; simpa using ew) fin
theorem getTup {pins : List (Addr × Obj)} {s : Shared} {σ : L2.St} {H : Hp} {a : Addr} {xs : List V} {i : Int} {t : Tok} {z : V} {Q : VK} (I : Inv X pins σ H s) (hq : SqT X.K H a xs) (he : atI xs i = some z) (q : Q z H) :
    wpAny (model X.prog X.w) X.A (getItem (.ref a) (.int i t)) (EP X pins σ Q) X.xe s := by
  obtain ⟨its, r, pl, hz⟩ := I.tuple hq
  obtain ⟨j, h1, h2, h3, h4, h5⟩ := atI_get he
  obtain ⟨w, ew, rw'⟩ := r.get h2
  have hl := r.length
  have hn := line63
  have fin : EP X pins σ Q w s := ⟨z, H, I, rw', q⟩
  exact PyProof.Rows.getItem_tuple (j := j) pl (by omega) (by omega) (by rw [List.size_toArray, ← hl]; exact h1) (by simpa using ew) fin
/-- getItem by values, and the type whose it is -/
theorem getItem_ok (hu : X.A.units + 65 < cLine) {pins : List (Addr × Obj)} {s : Shared} {σ : L2.St} {H : Hp} {xv yv : V} {v u : Value} {Q : VK} (I : Inv X pins σ H s) (rv : RelV xv v) (ru : RelV yv u) (hq : rIdx X.tx xv yv H Q) :
    (∃ T id, s.TypeIs v T ∧ typeLookup (.type T) "__getitem__" = pure (some (.builtin id))) ∧ wpAny (model X.prog X.w) X.A (getItem v u) (EP X pins σ Q) X.xe s := by
  obtain ⟨ι, h, x, y, t, sr, rx, ry, e, k⟩ := hq
  unfold idxT at e
  split at e
  · -- a tuple
    split at e
    · split at e
      · rename_i j ej
        obtain ⟨a, xs, rfl, st, rl⟩ := rx.tupE
        cases rv
        have ey := ry.intE
        subst ey
        obtain ⟨tk, rfl⟩ := ru
        obtain ⟨w, ew, rw'⟩ := rl.get e
        exact ⟨⟨"tuple", _, tuple_typeIs I st, PySem.F.slot_tuple_getitem.lookup⟩, getTup I st (atI_of (by rw [rl.length]; exact ej) ew) (k ι H _ (To.refl sr) rw')⟩
      · cases e
    · cases e
  · split at e
    · rename_i hl
      split at e
      · split at e
        · rename_i j ej
          obtain ⟨a, xs, rfl, hi, ha, rl⟩ := sr.lst rx hl
          cases rv
          have ey := ry.intE
          subst ey
          obtain ⟨tk, rfl⟩ := ru
          obtain ⟨w, ew, rw'⟩ := rl.get e
          exact ⟨⟨"list", _, list_typeIs I (sqL_of ha), slot_list_getitem.lookup⟩, getList I (sqL_of ha) (atI_of (by rw [rl.length]; exact ej) ew) (k ι H _ (To.refl sr) rw')⟩
        · cases e
      · cases e
    · rename_i hl
      split at e
      · rename_i key ek
        obtain ⟨a, ws, rfl, hi, ha, rk⟩ := sr.dk rx hl
        have ekv := key_ok ek ry
        subst ekv
        cases rv
        obtain ⟨z, ez, rz⟩ := (valM_ok key rk).2 t e
        have g : DGet H a (kV key) (some z) := by rw [← ez]; exact DGet.k ha
        exact ⟨⟨"dict", _, dict_typeIs I g, PySem.F.slot_dict_getitem.lookup⟩, d_getItem (by omega) I g ru fun w' s3 I3 rw' => ⟨z, H, I3, rw', k ι H _ (To.refl sr) rz⟩⟩
      · cases e
    · rename_i hl
      split at e
      · rename_i key ek
        obtain ⟨a, ob, ws, rfl, hi, ha, rk⟩ := sr.lk rx hl
        have ekv := key_ok ek ry
        subst ekv
        cases rv
        obtain ⟨z, ez, rz⟩ := (valM_ok key rk).2 t e
        have g : DGet H a (kV key) (some z) := .inl ⟨ws, key, .inr ⟨ob, ha⟩, rfl, ez.symm⟩
        exact ⟨⟨"dict", _, dict_typeIs I g, PySem.F.slot_dict_getitem.lookup⟩, d_getItem (by omega) I g ru fun w' s3 I3 rw' => ⟨z, H, I3, rw', k ι H _ (To.refl sr) rz⟩⟩
      · cases e
    · cases e
  · cases e
theorem pget_ok (hu : X.A.units + 65 < cLine) : PGet X (rIdx X.tx) := fun pins s σ H o i ov iv Q I r1 r2 q => (getItem_ok hu I r1 r2 q).2
theorem pe_idx (hu : X.A.units + 65 < cLine) {a b : Expr} {ta tb : TE} {pos : Pos} (ha : PE X a ta) (hb : PE X b tb) (hs : NoSl b) : PE X (.Subscript a b pos) (tOp (rIdx X.tx) ta tb) := by
  refine ⟨fun pins s σ H Q I h => ?_⟩
  refine Subscript_ (L2.binT ha hb I h fun o i s2 x y H2 I2 rx ry q => ?_)
  obtain ⟨⟨T, id, hT, hl⟩, h2⟩ := getItem_ok hu I2 rx ry q
  unfold subscriptTail
  refine wpAny_bind ?_
  rw [getitemInPython_of_ne hT.not_modules]
  refine wpAny_bind (wpAny_specialOf hT hl ?_)
  have fin : wpAny (model X.prog X.w) X.A (subscripted b false o i) (fun r s₃ => wpAny (model X.prog X.w) X.A (letTemporaryGo a o r >>= fun _ => pure r) (EP X pins σ Q) X.xe s₃) X.xe s2 := by
    rw [hs o i]
    exact wpAny_operating (wpAny_mono h2 (fun r s₃ h₃ => wpAny_bind (wpAny_letTemporaryGo (wpAny_pure h₃))) fun _ _ x => x)
  first
    | exact wpAny_pure (wpAny_bind fin)
    | exact wpAny_bind (wpAny_pure (wpAny_bind fin))
    | exact wpAny_bind fin
end
end Gn

/-! The engine, part 7: a store by a place or a key. -/
namespace Gn
open PySem PySem.Spec PyProof.Rows L2

section
variable {K : PySem.W.Frag} {H : Hp} {ι : List Addr}
theorem repK_any {k : Key} {kvs : List (Key × T)} {ws : List (Key × V)} (q : RepK K H ι kvs ws) : (kvs.any fun kv => decide (kv.1 = k)) = (ws.any fun kv => decide (kv.1 = k)) := by
  induction q with
  | nil => rfl
  | cons h1 _ ih => rw [List.any_cons, List.any_cons, ih, h1.1]
theorem repK_map {k : Key} {t : T} {v : V} (r : Rep K H ι t v) {kvs : List (Key × T)} {ws : List (Key × V)} (q : RepK K H ι kvs ws) :
    RepK K H ι (kvs.map fun kv => if kv.1 = k then (kv.1, t) else kv) (ws.map fun kv => if kv.1 = k then (kv.1, v) else kv) := by
  induction q with
  | nil => exact .nil
  | @cons a b _ _ h1 _ ih =>
    refine .cons ?_ ih
    dsimp only
    by_cases hk : a.1 = k
    · have hk' : b.1 = k := h1.1.symm.trans hk
      rw [if_pos hk, if_pos hk']
      exact ⟨h1.1, r⟩
    · have hk' : ¬ b.1 = k := fun z => hk (h1.1.trans z)
      rw [if_neg hk, if_neg hk']
      exact h1
theorem repK_app {a b : List (Key × T)} {c d : List (Key × V)} (q : RepK K H ι a c) (q' : RepK K H ι b d) : RepK K H ι (a ++ b) (c ++ d) := by
  induction q with
  | nil => exact q'
  | cons h1 _ ih => exact .cons h1 ih
theorem putM_ok (k : Key) {t : T} {v : V} (r : Rep K H ι t v) {kvs : List (Key × T)} {ws : List (Key × V)} (q : RepK K H ι kvs ws) : RepK K H ι (putM kvs k t) (putK ws k v) := by
  unfold putM putK
  rw [repK_any q]
  split
  · exact repK_map r q
  · exact repK_app q (.cons ⟨rfl, r⟩ .nil)
theorem delM_ok (k : Key) {kvs : List (Key × T)} {ws : List (Key × V)} (q : RepK K H ι kvs ws) : RepK K H ι (delM kvs k) (dropK ws k) := by
  unfold delM dropK
  induction q with
  | nil => exact .nil
  | @cons a b _ _ h1 _ ih =>
    rw [List.filter_cons, List.filter_cons, h1.1]
    split
    · exact .cons h1 ih
    · exact ih
theorem putN_new (k : NestedKey) (t v : T) : ∀ {kvs : List (NestedKey × T × T)}, (valM kvs k).isSome = false → putNM kvs k t v = kvs ++ [(k, t, v)]
  | [], _ => rfl
  | (j, u) :: r, e => by
    unfold valM at e
    unfold putNM
    by_cases hj : j = k
    · rw [if_pos hj] at e; cases e
    · rw [if_neg hj] at e ⊢
      rw [putN_new k t v e]; rfl
theorem putAt_id {k : NestedKey} {v : Value} : ∀ {xs : List (NestedKey × Addr × Value)}, k ∉ xs.map (·.1) → xs.map (putAt k v) = xs
  | [], _ => rfl
  | x :: xs, h => by
    rw [List.map_cons, List.mem_cons, not_or] at h
    rw [List.map_cons, putAt_id h.2]
    unfold putAt
    rw [if_neg (fun e => h.1 e.symm)]
theorem putN_old (k : NestedKey) (t : T) {v : T} {w : V} {u : Value} (rw_ : RelV w u) (r : Rep K H ι v w) : ∀ {kvs : List (NestedKey × T × T)} {xs : List (NestedKey × Addr × Value)}, RepN K H ι kvs xs → (xs.map (·.1)).Nodup → (valM kvs k).isSome = true →
    RepN K H ι (putNM kvs k t v) (xs.map (putAt k u))
  | [], _, q, _, e => by cases e
  | (j, p) :: rest, _, q, nd, e => by
    cases q with
    | @cons _ x _ xs h1 h2 =>
      obtain ⟨j', b, y⟩ := x
      obtain ⟨e1, e2, r1, w1, e3, r3⟩ := h1
      have e1' : j = j' := e1
      subst e1'
      rw [List.map_cons, List.nodup_cons] at nd
      unfold putNM
      unfold valM at e
      rw [List.map_cons]
      by_cases hj : j = k
      · subst hj
        rw [if_pos rfl, putAt_id nd.1]
        unfold putAt
        rw [if_pos rfl]
        exact .cons ⟨rfl, e2, r1, w, rw_, r⟩ h2
      · rw [if_neg hj] at e
        rw [if_neg hj]
        unfold putAt
        rw [if_neg hj]
        exact .cons ⟨rfl, e2, r1, w1, e3, r3⟩ (putN_old k t rw_ r h2 nd.2 e)
end
section
variable {X : Cx}
theorem dno_new {P : Program} {w : World} {kg : PySem.W.Frag} {mg : Str → Option Value} {H' : Hp} {h' : Heap} {a : Addr} {xs : List (NestedKey × Addr × Value)} (dd : h'.DictOfH (nestedKind P w) a xs) : ObjOk P w H' h' a (DNo ⟨P, w, kg, mg⟩ a xs) := by
  obtain ⟨o, es, ep, h1, h2, h3, h4, h5, h6⟩ := dd
  refine ⟨⟨o, es, ep, h1, h2, h3, h4⟩, ⟨o, h1⟩, fun g1 g2 ⟨o, es, ep, q1, q2, q3, q4⟩ hk => ⟨o, es, ep, hk o q1, q2, q3, q4⟩⟩
/-- what is stored by a place or a key -/
abbrev rSet (C : Tx) : TSet := fun o i v H Q => ∃ ι h x y z h', SR C ι h H ∧ Rep C.K H ι x o ∧ Rep C.K H ι y i ∧ Rep C.K H ι z v ∧ setT h x y z = some h' ∧ ∀ H', To C ι H ι h' H' → Q H'
theorem storedN {K : PySem.W.Frag} {H : Hp} {ι : List Addr} {kvs : List (NestedKey × T × T)} {xs : List (NestedKey × Addr × Value)} {key : NestedKey} {y z : T} {b : Addr} {v : V} {u : Value} (rk : RepN K H ι kvs xs) (ek : y.keyN = some key) (ry : Rep K H ι y (.ref b)) (rv : RelV v u) (rz : Rep K H ι z v) (nd : (xs.map (·.1)).Nodup) :
    RepN K H ι (putNM kvs key y z) (storedH xs key b u) := by
  have eb := (valN_ok key rk).1
  cases hq : (valM kvs key).isSome with
  | false =>
    rw [putN_new key y z hq]
    have ha : atKey xs key = none := by
      rw [hq] at eb
      cases q : atKey xs key with
      | none => rfl
      | some _ => rw [q] at eb; cases eb
    rw [storedH_new ha]
    have app : ∀ {l : List (NestedKey × T × T)} {m : List (NestedKey × Addr × Value)}, RepN K H ι l m → RepN K H ι (l ++ [(key, y, z)]) (m ++ [(key, b, u)]) := by
      intro l m q
      induction q with
      | nil => exact .cons ⟨rfl, ek, ry, v, rv, rz⟩ .nil
      | cons h1 _ ih => exact .cons h1 ih
    exact app rk
  | true =>
    rw [hq] at eb
    obtain ⟨p, hp⟩ := Option.isSome_iff_exists.mp eb
    rw [storedH_old hp]
    exact putN_old key y rv rz rk nd hq
/-- a dict by tuples is stored into -/
theorem dn_set (hu : X.A.units + 65 < cLine) {pins : List (Addr × Obj)} {s : Shared} {σ : L2.St} {H : Hp} {ι : List Addr} {h : Hi} {r : Nat} {a : Addr} {y z : T} {v iv : V} {u ivu : Value} {key : NestedKey} {kvs : List (NestedKey × T × T)} {xs : List (NestedKey × Addr × Value)} {Q : Hp → Prop}
    (I : Inv X pins σ H s) (sr : SR X.tx ι h H) (hi : ι[r]? = some a) (mu : Mut (H a)) (hf : ∀ ob u, H a ≠ some (.frz ob u)) (hsys : (a == sysModules) = false) (dd : s.heap.DictOfH (nestedKind X.prog X.w) a xs) (rk : RepN X.K H ι kvs xs) (ek : y.keyN = some key) (ry : Rep X.K H ι y iv) (ri : RelV iv ivu) (rz : Rep X.K H ι z v) (rv : RelV v u)
    (hz : kvs.length + 1 ≤ sizeLine) (k : ∀ H', To X.tx ι H ι (h.set r (.dn (putNM kvs key y z))) H' → Q H') :
    wpAny (model X.prog X.w) X.A (setItem (.ref a) ivu u) (fun _ s' => ∃ H', Inv X pins σ H' s' ∧ Q H') X.xe s := by
  obtain ⟨b, e1, eu, kx⟩ := keyN_is I ek ry ri
  subst e1 eu
  have hroom : (nestedKind X.prog X.w).room X.A.in1 := by show X.A.units + 1 + 8 < cLine; omega
  have hlen := Paired.length rk
  refine wpAny_setItem_heap (hsz := by omega) hroom kx dd fun h' dd' hs => ?_
  have hae : ∃ q, h'.get? a = some q := let ⟨q, _, _, hq, _⟩ := dd'; ⟨q, hq⟩
  have I' := d_write (t' := s.toks + (nestedKind X.prog X.w).draws key) (ob := DNo X.tx a (storedH xs key b u)) I mu hs hae (dno_new dd')
  have nd' : ((storedH xs key b u).map (·.1)).Nodup := let ⟨_, _, _, _, _, _, _, _, q⟩ := dd'; q
  have nd : (xs.map (·.1)).Nodup := let ⟨_, _, _, _, _, _, _, _, q⟩ := dd; q
  refine ⟨_, I', k _ (To.set sr hi ⟨_, upd_same, hsys, nd', ?_⟩ (sr.keepT_set (List.mem_of_getElem? hi) hf))⟩
  exact (storedN rk ek ry rv rz nd).at_ (sr.keepT_set (List.mem_of_getElem? hi) hf) fun _ _ e => e
theorem dk_nil_dn {pins : List (Addr × Obj)} {s : Shared} {σ : L2.St} {H : Hp} {a : Addr} (I : Inv X pins σ H s) (ha : H a = some (.dK [])) : (a == sysModules) = false ∧ s.heap.DictOfH (nestedKind X.prog X.w) a [] := by
  obtain ⟨z, hd, vs, rel, dd⟩ := dk_of I.hok ha
  cases rel
  obtain ⟨o, es, ep, h1, h2, h3, _, h4, _⟩ := dd
  have he : es.toList = [] := by
    generalize es.toList = l at h4
    cases h4; rfl
  exact ⟨hd, o, es, ep, h1, h2, h3, he, fun x hx => (nomatch hx), List.nodup_nil⟩
theorem set_ok (hu : X.A.units + 65 < cLine) : PSet X (rSet X.tx) := by
  intro pins s σ H o i v ov iv u Q I ro ri rv ⟨ι, h, x, y, z, h', sr, rx, ry, rz, e, k⟩
  unfold setT at e
  split at e
  · split at e
    · rename_i hl
      split at e
      · split at e
        · rename_i j ej
          cases e
          obtain ⟨a, xs, rfl, hi, ha, rl⟩ := sr.lst rx hl
          have ey := ry.intE
          subst ey
          refine set_list pins s σ H _ _ _ ov iv u Q I ro ri rv ⟨a, xs, _, j, rfl, rfl, ha, ixT_ok (by rw [rl.length]; exact ej), k _ (To.set sr hi ⟨_, upd_same, ?_⟩ (sr.keepT_set (List.mem_of_getElem? hi) (fun ob u q => by rw [ha] at q; cases q)) (fun ob u q => by rw [ha] at q; cases q))⟩
          exact (RepL.set j rl rz).at_ (sr.keepT_set (List.mem_of_getElem? hi) (fun ob u q => by rw [ha] at q; cases q)) fun _ _ e => e
        · cases e
      · cases e
    · rename_i kvs hl
      split at e
      · rename_i key ek
        obtain ⟨hz, e⟩ := bif_some e
        cases e
        obtain ⟨a, ws, rfl, hi, ha, rk⟩ := sr.dk rx hl
        have ekv := key_ok ek ry
        subst ekv
        cases ro
        have hz := small_ok hz
        have hlen := Paired.length rk
        refine d_setItem (by omega) I (DPut.k ha (by omega)) ri rv fun s' I' => ⟨_, I', k _ (To.set sr hi ⟨_, upd_same, ?_⟩ (sr.keepT_set (List.mem_of_getElem? hi) (fun ob u q => by rw [ha] at q; cases q)) (fun ob u q => by rw [ha] at q; cases q))⟩
        exact (putM_ok key rz rk).at_ (sr.keepT_set (List.mem_of_getElem? hi) (fun ob u q => by rw [ha] at q; cases q)) fun _ _ e => e
      · split at e
        · rename_i key ek
          cases e
          obtain ⟨a, ws, rfl, hi, ha, rk⟩ := sr.dk rx hl
          cases rk
          cases ro
          obtain ⟨hsys, dd⟩ := dk_nil_dn I ha
          exact dn_set hu I sr hi (by rw [ha]; trivial) (fun ob u q => by rw [ha] at q; cases q) hsys dd .nil ek ry ri rz rv (by rw [sizeLine_eq]; show 0 + 1 ≤ _; omega) k
        · cases e
    · rename_i kvs hl
      split at e
      · rename_i key ek
        obtain ⟨hz, e⟩ := bif_some e
        cases e
        obtain ⟨a, xs, rfl, hi, ha, hsys, nd, rk⟩ := sr.dn rx hl
        cases ro
        exact dn_set hu I sr hi (by rw [ha]; trivial) (fun ob u q => by rw [ha] at q; cases q) hsys (dn_of I ha nd rk) rk ek ry ri rz rv (small_ok hz) k
      · cases e
    · cases e
  · cases e
end
end Gn

/-! The engine: from the model's syntax to the compact form. -/
namespace Gn
open PySem PySem.Spec PyProof.Rows L2

/-- what a global name is -/
inductive Gb where
  | fn (k : Nat)
  | con (k : Nat)
  | cls (f : Nat)
/-- where an expression stands: the slots' names, the scope, the scope of a comprehension's block, the global names, slots' names of objects, methods; z: tuples of this def are kept with what is known of them -/
structure SC where
  N : List Str
  sc : Scope
  bl : Option Scope
  gl : List (Str × Gb)
  sl : List (Str × Str × Nat)
  ms : List (Str × Str × Nat)
  z : Bool
def ixOf : List Str → Str → Nat → Option Nat
  | [], _, _ => none
  | y :: ys, x, i => bif decide (y = x) then some i else ixOf ys x (i + 1)
def find {α : Type} : List (Str × α) → Str → Option α
  | [], _ => none
  | (y, a) :: r, x => bif decide (y = x) then some a else find r x
def sIsi : Str := "isinstance"
def sRange : Str := "range"
def sEnum : Str := "enumerate"
def sZip : Str := "zip"
def sItems : Str := "items"
def bltn : List (Str × BI) := [("len", .len), ("all", .all), ("any", .any), ("sum", .sum), ("abs", .abs), ("int", .int), ("list", .list), ("tuple", .tuple), ("sorted", .sorted), ("min", .min), ("max", .max)]
def tys : List (Str × String) := [("int", "int"), ("bool", "bool"), ("str", "str"), ("tuple", "tuple"), ("list", "list"), ("dict", "dict")]
def mths : List (Str × Nat × MI) := [("append", 1, .append), ("extend", 1, .extend), ("pop", 0, .pop), ("pop", 1, .popA), ("pop", 2, .popD), ("insert", 2, .insert), ("count", 1, .count), ("bit_length", 0, .bitlen), ("get", 2, .get), ("update", 1, .update)]
def sIndex : Str := "index"
def findM : List (Str × Nat × MI) → Str → Nat → Option MI
  | [], _, _ => none
  | (y, k, a) :: r, x, n => bif decide (y = x) && Nat.beq k n then some a else findM r x n
/-- a name that is stored into here -/
def stOk (c : SC) (x : Str) : Bool := match c.sc.names.lookup x with
  | some .local => true
  | some .cell => match c.bl with
    | none => true
    | some s => match s.names.lookup x with
      | some .cell => true
      | _ => false
  | _ => false
def isGlob (c : SC) (x : Str) : Bool := match c.sc.names.lookup x with
  | some .globalImplicit => true
  | _ => false
def isVis (c : SC) (x : Str) : Bool := match c.sc.names.lookup x with
  | some .local => true
  | some .cell => true
  | some .free => true
  | _ => false
def sDbg : Str := "__debug__"
def sCld : Str := "__classdict__"
def plain (x : Str) : Bool := !(x == sDbg) && !(x == sCld)
/-- a built-in's name -/
def isB (c : SC) (x : Str) : Bool := isGlob c x && (find c.gl x).isNone
def cName (c : SC) (x : Str) : IE := bif plain x then (bif isVis c x then (match ixOf c.N x 0 with
      | some i => .var i
      | none => .bad)
    else bif isGlob c x then (match find c.gl x with
      | some (.con k) => .glob k
      | _ => .bad)
    else .bad) else .bad
def noStar : Expr → Bool
  | .Starred _ _ => false
  | _ => true
def noSup : Expr → Bool
  | .Call _ _ _ _ => false
  | _ => true
def noSet : Expr → Bool
  | .Set _ _ _ => false
  | _ => true
def noSlc : Expr → Bool
  | .Slice _ _ _ _ => false
  | _ => true
def noCmp : Expr → Bool
  | .ListComp _ _ _ _ => false
  | .SetComp _ _ _ _ => false
  | .DictComp _ _ _ _ _ => false
  | _ => true
def isTupE : Expr → Bool
  | .Tuple _ _ _ => true
  | _ => false
def cCon : Const → IE
  | .none => .con .non
  | .bool b => .con (.bl b)
  | .int i => .con (.int i)
  | .str x => .con (.str x)
  | _ => .bad
def cTgN (c : SC) (x : Str) : Option Nat := bif stOk c x then ixOf c.N x 0 else none
def cTg0 (c : SC) : Expr → Option Tg
  | .Name x _ => match cTgN c x with
    | some i => some (.nm i)
    | none => none
  | _ => none
def cTg1 (c : SC) : Expr → Option Tg
  | .Tuple es _ _ => match mapO (cTg0 c) es with
    | some gs => some (.tup gs)
    | none => none
  | e => cTg0 c e
def cTg (c : SC) : Expr → Option Tg
  | .Tuple es _ _ => match mapO (cTg1 c) es with
    | some gs => some (.tup gs)
    | none => none
  | e => cTg0 c e
def ownOf (c : SC) (scope : Scope) : List (Str × Nat) := scope.names.filterMap fun y => match y.2 with
  | .local => (ixOf c.N y.1 0).map fun i => (y.1, i)
  | .cell => (ixOf c.N y.1 0).map fun i => (y.1, i)
  | _ => none
def sub (c : SC) (scope : Scope) : SC := { c with sc := relS scope c.sc, bl := some scope }
def subsetN (xs ys : List Nat) : Bool := xs.all fun x => ys.any fun y => Nat.beq x y
def cBltn (b : BI) (es : List IE) (z : Bool) : IE := match z, b, es with
  | true, .tuple, [e] => .tupZ e
  | _, _, [] => .bad
  | _, b, es => .bi b es
/-- range(..) as an argument -/
def rngOf (c : SC) : List Expr → Option Expr
  | [.Call (.Name y _) [z] [] _] => bif isB c y && decide (y = sRange) && noStar z then some z else none
  | _ => none
def stE (f : Expr → IE) : Expr → Bool × IE := fun e => match e with
  | .Starred d _ => (true, f d)
  | e => (false, f e)
mutual
def cE : Nat → SC → Expr → IE
  | 0, _, _ => .bad
  | n + 1, c, e => match e with
    | .Name x _ => cName c x
    | .Constant k _ _ => cCon k
    | .BinOp a op b _ => .bin op (cE n c a) (cE n c b)
    | .UnaryOp op a _ => match op with
      | .Not => .not (cE n c a)
      | .UAdd => .bad
      | .USub => .un .USub (cE n c a)
      | .Invert => .un .Invert (cE n c a)
    | .BoolOp op vs p => match vs with
      | [] => .bad
      | [a] => cE n c a
      | a :: b :: r => match op with
        | .And => .and (cE n c a) (cE n c (.BoolOp .And (b :: r) p))
        | .Or => .or (cE n c a) (cE n c (.BoolOp .Or (b :: r) p))
    | .IfExp t a b _ => .ife (cT n c t) (cE n c a) (cE n c b)
    | .Compare a ops bs _ => match ops, bs with
      | [op], [b] => bif behindInMarks op b then .bad else .cmp op (cE n c a) (cE n c b)
      | [op, op'], [b, d] => bif lastMarks [op, op'] [b, d] then .bad else .chain op op' (cE n c a) (cE n c b) (cE n c d)
      | _, _ => .bad
    | .Call f args kws p => match kws with
      | [] => bif args.all noStar then (match f with
        | .Name x _ => bif isGlob c x && plain x then (match find c.gl x with
            | some (.fn k) => (match args with
              | [] => .bad
              | args => .call k (args.map (cE n c)))
            | some (.cls k) => (match args with
              | [] => .bad
              | args => .newO x k (args.map (cE n c)))
            | some (.con _) => .bad
            | none => bif decide (x = sIsi) then (match args with
                | [a, .Name t _] => bif isB c t && plain t then (match find tys t with
                  | some ty => .isi (cE n c a) ty
                  | none => .bad) else .bad
                | _ => .bad)
              else match find bltn x with
                | some b => match rngOf c args with
                  | some z => match b with
                    | .list => .rangeL (cE n c z)
                    | .tuple => .rangeT (cE n c z)
                    | _ => .bad
                  | none => cBltn b (args.map (cE n c)) c.z
                | none => .bad)
          else .bad
        | .Attribute o m ap => bif noSup o && decide (args.length < 20) && (ap.endLine == p.line) then (match findM mths m args.length with
            | some mi => (match args with
              | [] => .mth0 mi (cE n c o)
              | args => .mth mi (cE n c o) (args.map (cE n c)))
            | none => bif decide (m = sIndex) then (match o, args with
                | .Name g _, [a] => bif isGlob c g && plain g then (match find c.gl g with
                  | some (.con k) => .kidx k (cE n c a)
                  | _ => .bad) else .zidx (cE n c o) [cE n c a]
                | _, _ => .zidx (cE n c o) (args.map (cE n c)))
              else match find c.ms m with
                | some q => (match args with
                  | [] => .cmth0 q.1 q.2 (cE n c o)
                  | args => .cmth q.1 q.2 (cE n c o) (args.map (cE n c)))
                | none => .bad) else .bad
        | _ => .bad) else .bad
      | _ => .bad
    | .Attribute o f _ => bif noSup o then (match find c.sl f with
      | some q => .fld q.1 (cE n c o) q.2
      | none => .bad) else .bad
    | .Subscript a i _ => match i with
      | .Slice lo hi st _ => match st with
        | none => .slc (cE n c a) (lo.map (cE n c)) (hi.map (cE n c))
        | some _ => .bad
      | i => .idx (cE n c a) (cE n c i)
    | .Tuple es _ _ => bif es.all noStar then .tup (es.map (cE n c)) else .tupS (es.map (stE (cE n c)))
    | .List es _ => bif es.all noStar then .lst (es.map (cE n c)) else .lstS (es.map (stE (cE n c)))
    | .Dict ks vs _ => match mapO (fun k : Option Expr => k) ks with
      | some ks => bif Nat.beq ks.length vs.length && Nat.ble ks.length 15 then .dct ((ks.zip vs).map fun p => (cE n c p.1, cE n c p.2)) else .bad
      | none => .bad
    | .ListComp elt gens scope _ => match gens with
      | [⟨tg, it, ifs, 0⟩] => bif blkC c.N c.sc scope (ownOf c scope) && noSet it && Nat.ble ifs.length 1 then (match cTg (sub c scope) tg with
        | some g => bif subsetN g.slots ((ownOf c scope).map (·.2)) then .lc g (cI n c (isTupE tg) it) (ifs.map (cT n (sub c scope))) (cE n (sub c scope) elt) ((ownOf c scope).map (·.2)) else .bad
        | none => .bad) else .bad
      | [⟨tg, it, ifs, 0⟩, ⟨tg1, it1, ifs1, 0⟩] => bif blkC c.N c.sc scope (ownOf c scope) && noSet it && noSet it1 && Nat.ble ifs.length 1 && Nat.ble ifs1.length 1 then (match cTg (sub c scope) tg, cTg (sub c scope) tg1 with
        | some g, some g1 => bif subsetN g.slots ((ownOf c scope).map (·.2)) && subsetN g1.slots ((ownOf c scope).map (·.2)) then
          .lc2 g (cI n c (isTupE tg) it) (ifs.map (cT n (sub c scope))) g1 (cI n (sub c scope) (isTupE tg1) it1) (ifs1.map (cT n (sub c scope))) (cE n (sub c scope) elt) ((ownOf c scope).map (·.2)) else .bad
        | _, _ => .bad) else .bad
      | _ => .bad
    | .DictComp k v gens scope _ => match gens with
      | [⟨tg, it, ifs, 0⟩] => bif blkC c.N c.sc scope (ownOf c scope) && noSet it && Nat.ble ifs.length 1 then (match cTg (sub c scope) tg with
        | some g => bif subsetN g.slots ((ownOf c scope).map (·.2)) then .dc g (cI n c (isTupE tg) it) (ifs.map (cT n (sub c scope))) (cE n (sub c scope) k) (cE n (sub c scope) v) ((ownOf c scope).map (·.2)) else .bad
        | none => .bad) else .bad
      | _ => .bad
    | _ => .bad
def cT : Nat → SC → Expr → IE
  | 0, _, _ => .bad
  | n + 1, c, e => match e with
    | .UnaryOp .Not a _ => .not (cT n c a)
    | .BoolOp op vs p => match vs with
      | [] => .bad
      | [a] => cT n c a
      | a :: b :: r => match op with
        | .And => .and (cT n c a) (cT n c (.BoolOp .And (b :: r) p))
        | .Or => .or (cT n c a) (cT n c (.BoolOp .Or (b :: r) p))
    | .Compare a ops bs _ => match ops, bs with
      | [op], [b] => bif behindInMarks op b then .bad else .cmp op (cE n c a) (cE n c b)
      | [op, op'], [b, d] => bif lastMarks [op, op'] [b, d] then .bad else .chain op op' (cE n c a) (cE n c b) (cE n c d)
      | _, _ => .bad
    | .IfExp _ _ _ _ => .bad
    | e => .tru (cE n c e)
def cI : Nat → SC → Bool → Expr → II
  | 0, _, _, _ => .val .bad
  | n + 1, c, tp, e => match e with
    | .Call (.Name x _) args [] _ => bif isB c x && plain x && args.all noStar then (match args with
        | [a] => bif decide (x = sRange) then .rng none (cE n c a) else bif decide (x = sEnum) && tp then .enum (cE n c a) else .val (cE n c e)
        | [a, b] => bif decide (x = sRange) then .rng (some (cE n c a)) (cE n c b) else bif decide (x = sZip) && tp then .zip (cE n c a) (cE n c b) else .val (cE n c e)
        | _ => .val (cE n c e)) else .val (cE n c e)
    | .Call (.Attribute (.Name d _) m ap) [] [] p => bif decide (m = sItems) && isVis c d && plain d && tp && (ap.endLine == p.line) then (match ixOf c.N d 0 with
        | some i => .items i
        | none => .val .bad) else .val (cE n c e)
    | e => .val (cE n c e)
end
def Pt.isWild : Pt → Bool
  | .wild => true
  | _ => false
def cPt : Nat → SC → Pattern → Option Pt
  | 0, _, _ => none
  | n + 1, c, p => match p with
    | .MatchValue (.Constant (.str x) _ _) _ => some (.val x)
    | .MatchAs none none _ => some .wild
    | .MatchAs none (some x) _ => match cTgN c x with
      | some i => some (.cap i)
      | none => none
    | .MatchSequence ps _ => match mapO (cPt n c) ps with
      | some qs => bif qs.all Pt.isWild then none else some (.seq qs)
      | none => none
    | _ => none
def cCase (c : SC) (f : List Stmt → List IS) (m : MatchCase) : Option (Pt × List IS) := match m with
  | ⟨p, none, b⟩ => match cPt 6 c p with
    | some q => some (q, f b)
    | none => none
  | _ => none
def cTt (n : Nat) (c : SC) : Expr → Option Tt
  | .Name x _ => match cTgN c x with
    | some i => some (.nm i)
    | none => none
  | .Subscript o i _ => bif noSlc i then some (.sub (cE n c o) (cE n c i)) else none
  | .Attribute o f _ => match find c.sl f with
    | some q => some (.fld q.1 (cE n c o) q.2)
    | none => none
  | _ => none
/-- the names of a parallel assignment that are stored from the right -/
def parN (c : SC) (ts : List Expr) : List Str := ts.filterMap fun
  | .Name id pos => if c.sc.names.lookup id == some .local && pos.line == (ts.head?.map (·.pos.line)).getD 0 then some id else none
  | _ => none
/-- some true: they are; some false: it is stored from the left -/
def parK (c : SC) (ts vs : List Expr) : Option Bool :=
  bif ((parN c ts).length != ts.length || (parN c ts).eraseDups.length != (parN c ts).length) then some false
  else bif vs.all (foldedForSure 8) then some false
  else bif vs.all (constantsAlone 8) then none
  else some true
def allNm : List Tt → Option (List Nat)
  | [] => some []
  | .nm i :: r => match allNm r with
    | some is => some (i :: is)
    | none => none
  | _ :: _ => none
def cS : Nat → SC → Stmt → IS
  | 0, _, _ => .bad
  | n + 1, c, s => match s with
    | .Return none _ => .retN
    | .Return (some e) _ => .ret (cE n c e)
    | .Expr e _ => bif noCmp e then .expr (cE n c e) else .bad
    | .Pass _ => .pass
    | .Break _ => .brk
    | .Continue _ => .cont
    | .Assign tgs e p => match tgs with
      | [tg] => match tg with
        | .Name x _ => (match cTgN c x with
          | some i => .asg (.nm i) (cE n c e)
          | none => .bad)
        | .Subscript o i _ => bif noSlc i then .set (cE n c o) (cE n c i) (cE n c e) else .bad
        | .Attribute o f _ => (match find c.sl f with
          | some q => .setF q.1 (cE n c o) q.2 (cE n c e)
          | none => .bad)
        | .Tuple ts k q => match e with
          | .Tuple es _ _ => bif es.all noStar && Nat.beq ts.length es.length && (Nat.beq ts.length 2 || Nat.beq ts.length 3) then (match mapO (cTt n c) ts, parK c ts es with
            | some gs, some b => bif b then (match allNm gs with | some is => bif decide is.Nodup then .par gs (es.map (cE n c)) else .bad | none => .bad) else .par gs (es.map (cE n c))
            | _, _ => .bad) else .bad
          | e => (match cTg c (.Tuple ts k q) with
            | some g => .asg g (cE n c e)
            | none => .bad)
        | _ => .bad
      | _ => .bad
    | .AugAssign tg op e _ => match tg with
      | .Name x _ => (match cTgN c x with
        | some i => .augN i op (cE n c e)
        | none => .bad)
      | .Subscript o i _ => bif noSlc i then .augS (cE n c o) (cE n c i) op (cE n c e) else .bad
      | _ => .bad
    | .If t a b _ => .ifs (cT n c t) (a.map (cS n c)) (b.map (cS n c))
    | .While t b r _ => match r with
      | [] => .whl (cT n c t) (b.map (cS n c))
      | _ => .bad
    | .For tg it b r _ => match r with
      | [] => bif noSet it then (match cTg c tg with
        | some g => .fr g (cI n c (isTupE tg) it) (b.map (cS n c))
        | none => .bad) else .bad
      | _ => .bad
    | .Match e cs _ => (match mapO (cCase c (fun b => b.map (cS n c))) cs with
      | some ks => .mtch (cE n c e) ks
      | none => .bad)
    | _ => .bad
end Gn

/-! The engine is right, part 1: readings, expressions without calls. -/
namespace Gn
open PySem PySem.Spec PyProof.Rows L2

abbrev rdE (C : Tx) (r : Rec) (l : Nat) (ie : IE) : TE := fun ρ H Q => ∃ ι σ h, SR C ι h H ∧ RepS C.K H ι σ ρ ∧ ∃ t h', r.e l ie σ h = some (t, h') ∧ PV C ι H t h' Q
abbrev rdT (C : Tx) (r : Rec) (l : Nat) (ie : IE) : TT := fun ρ H Q => ∃ ι σ h, SR C ι h H ∧ RepS C.K H ι σ ρ ∧ ∃ b h', r.t l ie σ h = some (b, h') ∧ ∀ ι' H', To C ι H ι' h' H' → Q b H'
abbrev rdA (C : Tx) (r : Rec) (l : Nat) (es : List IE) : TA := fun ρ H Q => ∃ ι σ h, SR C ι h H ∧ RepS C.K H ι σ ρ ∧ ∃ ts h', r.es l es σ h = some (ts, h') ∧ ∀ ι' H' vs, To C ι H ι' h' H' → RepL C.K H' ι' ts vs → Q vs H'
theorem peW {X : Cx} {e : Expr} {t t' : TE} (h : PE X e t) (w : ∀ ρ H Q, t' ρ H Q → t ρ H Q) : PE X e t' := ⟨fun pins s σ H Q I q => h.run pins s σ H Q I (w _ _ _ q)⟩
theorem ptW {X : Cx} {e : Expr} {t t' : TT} (h : PT X e t) (w : ∀ ρ H Q, t' ρ H Q → t ρ H Q) : PT X e t' := ⟨fun pins s σ H Q I q => h.run pins s σ H Q I (w _ _ _ q)⟩
theorem paW {X : Cx} {e : List Expr} {t t' : TA} (h : PA X e t) (w : ∀ ρ H Q, t' ρ H Q → t ρ H Q) : PA X e t' := ⟨fun pos pins s σ H Q I q => h.run pos pins s σ H Q I (w _ _ _ q)⟩
theorem psW {X : Cx} {e : Stmt} {t t' : TS} (h : PS X e t) (w : ∀ D ρ H, t' D ρ H → t D ρ H) : PS X e t' := ⟨fun pins s σ H D I q => h.run pins s σ H D I (w _ _ _ q)⟩
theorem pssW {X : Cx} {e : List Stmt} {t t' : TS} (h : PSs X e t) (w : ∀ D ρ H, t' D ρ H → t D ρ H) : PSs X e t' := ⟨fun pins s σ H D I q => h.run pins s σ H D I (w _ _ _ q)⟩
theorem peN {X : Cx} {e : Expr} {t : TE} (w : ∀ ρ H Q, ¬ t ρ H Q) : PE X e t := ⟨fun _ _ _ _ _ _ q => (w _ _ _ q).elim⟩
theorem PE.or {X : Cx} {e : Expr} {t u : TE} (h : PE X e t) (h' : PE X e u) : PE X e (fun σ H Q => t σ H Q ∨ u σ H Q) := ⟨fun pins s σ H Q I q => q.elim (h.run pins s σ H Q I) (h'.run pins s σ H Q I)⟩
theorem PI.or {X : Cx} {tg e : Expr} {t u : TI} (h : PI X tg e t) (h' : PI X tg e u) : PI X tg e (fun σ H Q => t σ H Q ∨ u σ H Q) := ⟨fun pins s σ H Q I q => q.elim (h.run pins s σ H Q I) (h'.run pins s σ H Q I)⟩
theorem PS.or {X : Cx} {e : Stmt} {t u : TS} (h : PS X e t) (h' : PS X e u) : PS X e (fun D σ H => t D σ H ∨ u D σ H) := ⟨fun pins s σ H Q I q => q.elim (h.run pins s σ H Q I) (h'.run pins s σ H Q I)⟩

/-! ### what an expression's place is known by -/
/-- what a def does, as the engine has it -/
def spF (C : Tx) (g : Gt) (f : FI) (l : Nat) : Sp := fun vs H Q _ => ∃ n ι h ts t h', SR C ι h H ∧ RepL C.K H ι ts vs ∧ callF (run g n) l f ts h = some (t, h') ∧ PV C ι H t h' Q
/-- a def's run in the heap as it stands -/
def spR (C : Tx) (g : Gt) (f : FI) (l : Nat) : Sp := fun vs H Q _ => ∃ n ι h ts t h', SR C ι h H ∧ RepL C.K H ι ts vs ∧ ts.length = f.pars ∧ runF (run g n) l f ts h = some (t, h') ∧ PV C ι H t h' Q
/-- a new object's __init__, told of the object as one with slots -/
def spI (C : Tx) (g : Gt) (f : FI) (A : Addr) (l : Nat) : Sp := fun vs H Q E => ∃ a dx ws, vs = .ref a :: ws ∧ H a = some (.ins A dx []) ∧ spR C g f l vs (SlX.slH H a A dx []) Q E
def bNames : List Str := sIsi :: sRange :: sEnum :: sZip :: (bltn.map (·.1) ++ tys.map (·.1))
/-- a global name -/
def GbOk (X : Cx) (g : Gt) (l : Nat) (x : Str) : Gb → Prop
  | .con k => ∃ t u v, g.consts[k]? = some t ∧ X.mg x = some u ∧ RelV v u ∧ (∀ (H : Hp) (ι : List Addr), Rep X.K H ι t v) ∧ ∀ a, v = .ref a → ∃ o, X.K.lookup a = some o ∧ o.dict = none
  | .fn k => ∃ f, g.fns[k]? = some f ∧ ∀ l', l' < l → C8.Cal X.prog X.w X.K X.mg X.base (l' + 1) x (spR X.tx g f l') []
  | .cls k => ∃ A f fi, X.mg x = some (.ref A) ∧ Mk X.K A f ∧ g.fns[k]? = some fi ∧ ∀ l', l' < l → FnR X.prog X.w X.K X.mg X.base C8.CX0 (l' + 1) f (spI X.tx g fi A l')
/-- a field of a class with slots -/
def FlOk (C : Tx) (f : Str) (q : Str × Nat) : Prop := ∃ A p, C.mg q.1 = some (.ref A) ∧ SlX.SCls C.K A ∧ SlX.Slot1 C.K A f p q.2
/-- a method of a class with slots -/
def MtOk (X : Cx) (g : Gt) (l : Nat) (m : Str) (q : Str × Nat) : Prop := ∃ A f fi, X.mg q.1 = some (.ref A) ∧ SlX.SCls X.K A ∧ Meth X.K A m f ∧ g.fns[q.2]? = some fi ∧ ∀ l', l' < l → FnR X.prog X.w X.K X.mg X.base C8.CX0 (l' + 1) f (spR X.tx g fi l')
structure XOk (g : Gt) (c : SC) (l : Nat) (X : Cx) : Prop where
  N : X.N = c.N
  nd : X.N.Nodup
  sc : X.env.scope = c.sc
  calm : X.calm = true
  room : Room l X.A
  st : ∀ x, stOk c x = true → X.fn x = true ∨ X.env.scope.names.lookup x = some .local
  xe : X.xe = fun _ _ => False
  bmg : ∀ x ∈ bNames, X.mg x = none
  gl : ∀ x b, find c.gl x = some b → GbOk X g l x b
  fl : ∀ f q, find c.sl f = some q → FlOk X.tx f q
  mt : ∀ m q, find c.ms m = some q → MtOk X g l m q
theorem XOk.hu {g : Gt} {c : SC} {l : Nat} {X : Cx} (x : XOk g c l X) : X.A.units + 65 < cLine := by have := x.room.un; omega

section
variable {K : PySem.W.Frag} {C : Tx} {g : Gt} {r : Rec} {l : Nat} {c : SC} {X : Cx} {n : Nat}
/-! ### names -/
theorem ixOf_get : ∀ {N : List Str} {x : Str} {i j : Nat}, ixOf N x j = some i → ∃ m, i = j + m ∧ N[m]? = some x
  | [], _, _, _, e => by cases e
  | y :: ys, x, i, j, e => by
    unfold ixOf at e
    cases d : decide (y = x) with
    | true => rw [d] at e; cases e; exact ⟨0, rfl, by rw [of_decide_eq_true d]; rfl⟩
    | false =>
      rw [d] at e
      obtain ⟨m, e1, e2⟩ := ixOf_get e
      exact ⟨m + 1, by omega, by simpa using e2⟩
theorem ixOf_at {N : List Str} {x : Str} {i : Nat} (e : ixOf N x 0 = some i) : N[i]? = some x := by
  obtain ⟨m, e1, e2⟩ := ixOf_get e
  rw [e1, Nat.zero_add]; exact e2
theorem isVis_ok {c : SC} {x : Str} (h : isVis c x = true) : Vis c.sc x := by
  unfold isVis at h
  unfold Vis
  split at h
  · rename_i e; exact .inl e
  · rename_i e; exact .inr (.inl e)
  · rename_i e; exact .inr (.inr e)
  · cases h
theorem isGlob_ok {c : SC} {x : Str} (h : isGlob c x = true) : c.sc.names.lookup x = some .globalImplicit := by
  unfold isGlob at h
  split at h
  · assumption
  · cases h
theorem XOk.gl_ (x : XOk g c l X) {y : Str} (h : isGlob c y = true) : Gl X y := by
  show X.env.scope.names.lookup y = _
  rw [x.sc]; exact isGlob_ok h
theorem plain_ok {x : Str} (h : plain x = true) : (x == ("__debug__" : Str)) = false ∧ (x == ("__classdict__" : Str)) = false := by
  unfold plain at h
  rw [Bool.and_eq_true, Bool.not_eq_true', Bool.not_eq_true'] at h
  exact h
theorem stOk_loc {c : SC} {x : Str} (h : stOk c x = true) : L2.Loc c.sc x := by
  unfold stOk at h
  unfold L2.Loc
  split at h
  · rename_i e; exact .inl e
  · rename_i e; exact .inr e
  · cases h
theorem cTgN_ok {x : Str} {i : Nat} (h : cTgN c x = some i) : stOk c x = true ∧ c.N[i]? = some x := by
  unfold cTgN at h
  cases d : stOk c x with
  | true => rw [d] at h; exact ⟨rfl, ixOf_at h⟩
  | false => rw [d] at h; cases h
theorem bif_t {α : Type} {c : Bool} {a b : α} (h : c = true) : (bif c then a else b) = a := by rw [h]; rfl
theorem rd_none {ie : IE} {ρ : L2.St} {H : Hp} {Q : VK} (hs : ∀ σ h, r.e l ie σ h = none) : ¬ rdE C r l ie ρ H Q := fun ⟨_, σ, h, _, _, _, _, e, _⟩ => by rw [hs] at e; cases e
theorem pe_bad {e : Expr} : PE X e (rdE X.tx (step g r) l .bad) := peN fun _ _ _ => rd_none fun _ _ => rfl
theorem snd_name (x : XOk g c l X) {y : Str} {pos : Pos} : PE X (.Name y pos) (rdE X.tx (step g r) l (cName c y)) := by
  unfold cName
  cases hp : plain y with
  | false => exact pe_bad
  | true =>
    obtain ⟨hd, hcd⟩ := plain_ok hp
    cases hv : isVis c y with
    | true =>
      simp only [cond_true]
      split
      · rename_i i hi
        refine peW (pe_var (i := i) (by rw [x.N]; exact ixOf_at hi) (by rw [x.sc]; exact isVis_ok hv) hd hcd) ?_
        intro ρ H Q ⟨ι, σ, h, sr, rs, t, h', e, k⟩
        replace e : (match σ[i]? with | some (some t) => some (t, h) | _ => none) = some (t, h') := e
        split at e
        · rename_i u hu
          cases e
          obtain ⟨v, e1, rv⟩ := rs.at_ i _ hu
          exact ⟨v, e1, k ι H v (To.refl sr) rv⟩
        · cases e
      · exact pe_bad
    | false =>
      cases hg : isGlob c y with
      | false => exact pe_bad
      | true =>
        simp only [cond_true, cond_false]
        split
        · rename_i k hk
          obtain ⟨t, u, v, e1, e2, e3, e4, _⟩ := x.gl y _ hk
          refine peW (pe_glob (x.gl_ hg) e2 e3 hd) ?_
          intro ρ H Q ⟨ι, σ, h, sr, rs, t', h', e, k'⟩
          replace e : (match g.consts[k]? with | some t => some (t, h) | none => none) = some (t', h') := e
          rw [e1] at e
          cases e
          exact k' ι H v (To.refl sr) (e4 H ι)
        · exact pe_bad
theorem snd_con (x : XOk g c l X) {k : Const} {j : Nat} {pos : Pos} : PE X (.Constant k j pos) (rdE X.tx (step g r) l (cCon k)) := by
  have fin : ∀ {t : T} {v : V} (ρ : L2.St) (H : Hp) (Q : VK), (∀ H ι, Rep X.K H ι t v) → rdE X.tx (step g r) l (.con t) ρ H Q → tC v ρ H Q := by
    intro t v ρ H Q hr ⟨ι, σ, h, sr, rs, t', h', e, k'⟩
    replace e : some (t, h) = some (t', h') := e
    cases e
    exact k' ι H v (To.refl sr) (hr H ι)
  cases k with
  | none => exact peW pe_non fun ρ H Q => fin ρ H Q fun _ _ => .non
  | bool b => exact peW pe_bl fun ρ H Q => fin ρ H Q fun _ _ => .bl b
  | int b => exact peW pe_int fun ρ H Q => fin ρ H Q fun _ _ => .int b
  | str b => exact peW pe_str fun ρ H Q => fin ρ H Q fun _ _ => .str b
  | _ => exact pe_bad
/-! ### steps in a row -/
theorem rd_bin {op : Operator} {a b : IE} {ρ : L2.St} {H : Hp} {Q : VK} (h : rdE C (step g r) l (.bin op a b) ρ H Q) : tOp (rBin C op) (rdE C r l a) (rdE C r l b) ρ H Q := by
  obtain ⟨ι, σ, h, sr, rs, t, h', e, k⟩ := h
  replace e : stepE g r l (.bin op a b) σ h = some (t, h') := e
  simp only [stepE] at e
  split at e
  · rename_i x h1 e1
    split at e
    · rename_i y h2 e2
      exact ⟨ι, σ, h, sr, rs, x, h1, e1, fun ι1 H1 v1 to1 r1 => ⟨ι1, σ, h1, to1.sr, to1.repS sr rs, y, h2, e2, fun ι2 H2 v2 to2 r2 =>
        ⟨ι2, h2, x, y, t, h', to2.sr, to2.rep to1.sr r1, r2, e, fun ι3 H3 v3 to3 r3 => k _ _ _ ((to1.trans to2).trans to3) r3⟩⟩⟩
    · cases e
  · cases e
theorem rd_un {op : UnaryOp} {a : IE} {ρ : L2.St} {H : Hp} {Q : VK} (h : rdE C (step g r) l (.un op a) ρ H Q) : tUn (fun xv H Q => ∃ ι h x t, SR C ι h H ∧ Rep C.K H ι x xv ∧ unT op x = some t ∧ PV C ι H t h Q) (rdE C r l a) ρ H Q := by
  obtain ⟨ι, σ, h, sr, rs, t, h', e, k⟩ := h
  replace e : stepE g r l (.un op a) σ h = some (t, h') := e
  simp only [stepE] at e
  split at e
  · rename_i x h1 e1
    split at e
    · rename_i y e2
      cases e
      exact ⟨ι, σ, h, sr, rs, x, h', e1, fun ι1 H1 v1 to1 r1 => ⟨ι1, h', x, _, to1.sr, r1, e2, fun ι3 H3 v3 to3 r3 => k _ _ _ (to1.trans to3) r3⟩⟩
    · cases e
  · cases e
theorem rd_not {a : IE} {ρ : L2.St} {H : Hp} {Q : VK} (h : rdE C (step g r) l (.not a) ρ H Q) : tNotV (rdE C r l a) ρ H Q := by
  obtain ⟨ι, σ, h, sr, rs, t, h', e, k⟩ := h
  replace e : stepE g r l (.not a) σ h = some (t, h') := e
  simp only [stepE] at e
  split at e
  · rename_i b h1 e1
    cases e
    exact ⟨ι, σ, h, sr, rs, _, h', e1, fun ι1 H1 v1 to1 r1 => ⟨b, r1.blE, k _ _ _ to1 (.bl _)⟩⟩
  · cases e
theorem rd_and {a b : IE} {ρ : L2.St} {H : Hp} {Q : VK} (h : rdE C (step g r) l (.and a b) ρ H Q) : tAndV (rdE C r l a) (rdE C r l b) ρ H Q := by
  obtain ⟨ι, σ, h, sr, rs, t, h', e, k⟩ := h
  replace e : stepE g r l (.and a b) σ h = some (t, h') := e
  simp only [stepE] at e
  split at e
  · rename_i h1 e1
    exact ⟨ι, σ, h, sr, rs, _, h1, e1, fun ι1 H1 v1 to1 r1 => ⟨true, r1.blE, by
      rw [if_pos rfl]
      exact ⟨ι1, σ, h1, to1.sr, to1.repS sr rs, t, h', e, fun ι2 H2 v2 to2 r2 => k _ _ _ (to1.trans to2) r2⟩⟩⟩
  · rename_i h1 e1
    cases e
    exact ⟨ι, σ, h, sr, rs, _, h', e1, fun ι1 H1 v1 to1 r1 => ⟨false, r1.blE, by
      rw [if_neg (by decide)]
      exact k _ _ _ to1 (.bl _)⟩⟩
  · cases e
theorem rd_or {a b : IE} {ρ : L2.St} {H : Hp} {Q : VK} (h : rdE C (step g r) l (.or a b) ρ H Q) : tOrV (rdE C r l a) (rdE C r l b) ρ H Q := by
  obtain ⟨ι, σ, h, sr, rs, t, h', e, k⟩ := h
  replace e : stepE g r l (.or a b) σ h = some (t, h') := e
  simp only [stepE] at e
  split at e
  · rename_i h1 e1
    cases e
    exact ⟨ι, σ, h, sr, rs, _, h', e1, fun ι1 H1 v1 to1 r1 => ⟨true, r1.blE, by
      rw [if_pos rfl]
      exact k _ _ _ to1 (.bl _)⟩⟩
  · rename_i h1 e1
    exact ⟨ι, σ, h, sr, rs, _, h1, e1, fun ι1 H1 v1 to1 r1 => ⟨false, r1.blE, by
      rw [if_neg (by decide)]
      exact ⟨ι1, σ, h1, to1.sr, to1.repS sr rs, t, h', e, fun ι2 H2 v2 to2 r2 => k _ _ _ (to1.trans to2) r2⟩⟩⟩
  · cases e
theorem rd_ife {a b d : IE} {ρ : L2.St} {H : Hp} {Q : VK} (h : rdE C (step g r) l (.ife d a b) ρ H Q) : tIf (rdT C r l d) (rdE C r l a) (rdE C r l b) ρ H Q := by
  obtain ⟨ι, σ, h, sr, rs, t, h', e, k⟩ := h
  replace e : stepE g r l (.ife d a b) σ h = some (t, h') := e
  simp only [stepE] at e
  split at e
  · rename_i h1 e1
    refine ⟨ι, σ, h, sr, rs, true, h1, e1, fun ι1 H1 to1 => ?_⟩
    dsimp only
    rw [if_pos rfl]
    exact ⟨ι1, σ, h1, to1.sr, to1.repS sr rs, t, h', e, fun ι2 H2 v2 to2 r2 => k _ _ _ (to1.trans to2) r2⟩
  · rename_i h1 e1
    refine ⟨ι, σ, h, sr, rs, false, h1, e1, fun ι1 H1 to1 => ?_⟩
    dsimp only
    rw [if_neg (by decide)]
    exact ⟨ι1, σ, h1, to1.sr, to1.repS sr rs, t, h', e, fun ι2 H2 v2 to2 r2 => k _ _ _ (to1.trans to2) r2⟩
  · cases e
theorem rd_cmp {op : CmpOp} {a b : IE} {ρ : L2.St} {H : Hp} {Q : VK} (h : rdE C (step g r) l (.cmp op a b) ρ H Q) : tOp (rCmp C op) (rdE C r l a) (rdE C r l b) ρ H Q := by
  obtain ⟨ι, σ, h, sr, rs, t, h', e, k⟩ := h
  replace e : stepE g r l (.cmp op a b) σ h = some (t, h') := e
  simp only [stepE] at e
  split at e
  · rename_i x h1 e1
    split at e
    · rename_i y h2 e2
      split at e
      · rename_i d e3
        cases e
        exact ⟨ι, σ, h, sr, rs, x, h1, e1, fun ι1 H1 v1 to1 r1 => ⟨ι1, σ, h1, to1.sr, to1.repS sr rs, y, _, e2, fun ι2 H2 v2 to2 r2 =>
          ⟨ι2, _, x, y, d, to2.sr, to2.rep to1.sr r1, r2, e3, k _ _ _ (to1.trans to2) (.bl _)⟩⟩⟩
      · cases e
    · cases e
  · cases e
theorem rdt_cmp {op : CmpOp} {a b : IE} {ρ : L2.St} {H : Hp} {Q : Bool → Hp → Prop} (h : rdT C (step g r) l (.cmp op a b) ρ H Q) : tTest (tOp (rCmp C op) (rdE C r l a) (rdE C r l b)) ρ H Q := by
  obtain ⟨ι, σ, h, sr, rs, t, h', e, k⟩ := h
  replace e : stepT g r l (.cmp op a b) σ h = some (t, h') := e
  simp only [stepT] at e
  split at e
  · rename_i x h1 e1
    split at e
    · rename_i y h2 e2
      split at e
      · rename_i d e3
        cases e
        exact ⟨ι, σ, h, sr, rs, x, h1, e1, fun ι1 H1 v1 to1 r1 => ⟨ι1, σ, h1, to1.sr, to1.repS sr rs, y, _, e2, fun ι2 H2 v2 to2 r2 =>
          ⟨ι2, _, x, y, _, to2.sr, to2.rep to1.sr r1, r2, e3, _, rfl, k _ _ (to1.trans to2)⟩⟩⟩
      · cases e
    · cases e
  · cases e
theorem rd_chain {op op' : CmpOp} {a b d : IE} {ρ : L2.St} {H : Hp} {Q : VK} (h : rdE C (step g r) l (.chain op op' a b d) ρ H Q) : tChain (rCmp C op) (rCmp C op') (rdE C r l a) (rdE C r l b) (rdE C r l d) ρ H Q := by
  obtain ⟨ι, σ, h, sr, rs, t, h', e, k⟩ := h
  replace e : stepE g r l (.chain op op' a b d) σ h = some (t, h') := e
  simp only [stepE] at e
  split at e
  · rename_i x h1 e1
    split at e
    · rename_i y h2 e2
      split at e
      · rename_i e3
        split at e
        · rename_i z h3 e4
          split at e
          · rename_i q e5
            cases e
            exact ⟨ι, σ, h, sr, rs, x, h1, e1, fun ι1 H1 v1 to1 r1 => ⟨ι1, σ, h1, to1.sr, to1.repS sr rs, y, h2, e2, fun ι2 H2 v2 to2 r2 =>
              ⟨ι2, h2, x, y, true, to2.sr, to2.rep to1.sr r1, r2, e3, true, rfl, by
                rw [if_pos rfl]
                exact ⟨ι2, σ, h2, to2.sr, to2.repS to1.sr (to1.repS sr rs), z, _, e4, fun ι3 H3 v3 to3 r3 =>
                  ⟨ι3, _, y, z, q, to3.sr, to3.rep to2.sr r2, r3, e5, k _ _ _ ((to1.trans to2).trans to3) (.bl _)⟩⟩⟩⟩⟩
          · cases e
        · cases e
      · rename_i e3
        cases e
        exact ⟨ι, σ, h, sr, rs, x, h1, e1, fun ι1 H1 v1 to1 r1 => ⟨ι1, σ, h1, to1.sr, to1.repS sr rs, y, _, e2, fun ι2 H2 v2 to2 r2 =>
          ⟨ι2, _, x, y, false, to2.sr, to2.rep to1.sr r1, r2, e3, false, rfl, by
            rw [if_neg (by decide)]
            exact k _ _ _ (to1.trans to2) (.bl _)⟩⟩⟩
      · cases e
    · cases e
  · cases e
theorem rd_idx {a b : IE} {ρ : L2.St} {H : Hp} {Q : VK} (h : rdE C (step g r) l (.idx a b) ρ H Q) : tOp (rIdx C) (rdE C r l a) (rdE C r l b) ρ H Q := by
  obtain ⟨ι, σ, h, sr, rs, t, h', e, k⟩ := h
  replace e : stepE g r l (.idx a b) σ h = some (t, h') := e
  simp only [stepE] at e
  split at e
  · rename_i x h1 e1
    split at e
    · rename_i y h2 e2
      split at e
      · rename_i d e3
        cases e
        exact ⟨ι, σ, h, sr, rs, x, h1, e1, fun ι1 H1 v1 to1 r1 => ⟨ι1, σ, h1, to1.sr, to1.repS sr rs, y, _, e2, fun ι2 H2 v2 to2 r2 =>
          ⟨ι2, _, x, y, _, to2.sr, to2.rep to1.sr r1, r2, e3, fun ι3 H3 v3 to3 r3 => k _ _ _ ((to1.trans to2).trans to3) r3⟩⟩⟩
      · cases e
    · cases e
  · cases e
/-! ### tests -/
theorem rdt_not {a : IE} {ρ : L2.St} {H : Hp} {Q : Bool → Hp → Prop} (h : rdT C (step g r) l (.not a) ρ H Q) : tNot (rdT C r l a) ρ H Q := by
  obtain ⟨ι, σ, h, sr, rs, t, h', e, k⟩ := h
  replace e : stepT g r l (.not a) σ h = some (t, h') := e
  simp only [stepT] at e
  split at e
  · rename_i b h1 e1
    cases e
    exact ⟨ι, σ, h, sr, rs, _, _, e1, fun ι1 H1 to1 => k _ _ to1⟩
  · cases e
theorem rdt_and {a b : IE} {ρ : L2.St} {H : Hp} {Q : Bool → Hp → Prop} (h : rdT C (step g r) l (.and a b) ρ H Q) : tAnd (rdT C r l a) (rdT C r l b) ρ H Q := by
  obtain ⟨ι, σ, h, sr, rs, t, h', e, k⟩ := h
  replace e : stepT g r l (.and a b) σ h = some (t, h') := e
  simp only [stepT] at e
  split at e
  · rename_i h1 e1
    refine ⟨ι, σ, h, sr, rs, true, h1, e1, fun ι1 H1 to1 => ?_⟩
    dsimp only
    rw [if_pos rfl]
    exact ⟨ι1, σ, h1, to1.sr, to1.repS sr rs, t, h', e, fun ι2 H2 to2 => k _ _ (to1.trans to2)⟩
  · rename_i h1 e1
    cases e
    refine ⟨ι, σ, h, sr, rs, false, _, e1, fun ι1 H1 to1 => ?_⟩
    dsimp only
    rw [if_neg (by decide)]
    exact k _ _ to1
  · cases e
theorem rdt_or {a b : IE} {ρ : L2.St} {H : Hp} {Q : Bool → Hp → Prop} (h : rdT C (step g r) l (.or a b) ρ H Q) : tOr (rdT C r l a) (rdT C r l b) ρ H Q := by
  obtain ⟨ι, σ, h, sr, rs, t, h', e, k⟩ := h
  replace e : stepT g r l (.or a b) σ h = some (t, h') := e
  simp only [stepT] at e
  split at e
  · rename_i h1 e1
    cases e
    refine ⟨ι, σ, h, sr, rs, true, _, e1, fun ι1 H1 to1 => ?_⟩
    dsimp only
    rw [if_pos rfl]
    exact k _ _ to1
  · rename_i h1 e1
    refine ⟨ι, σ, h, sr, rs, false, h1, e1, fun ι1 H1 to1 => ?_⟩
    dsimp only
    rw [if_neg (by decide)]
    exact ⟨ι1, σ, h1, to1.sr, to1.repS sr rs, t, h', e, fun ι2 H2 to2 => k _ _ (to1.trans to2)⟩
  · cases e
/-! ### lists of arguments -/
theorem rda_nil {ρ : L2.St} {H : Hp} {Q : List V → Hp → Prop} (h : rdA C (step g r) l [] ρ H Q) : tNil ρ H Q := by
  obtain ⟨ι, σ, h, sr, rs, ts, h', e, k⟩ := h
  replace e : some (([] : List T), h) = some (ts, h') := e
  cases e
  exact k _ _ _ (To.refl sr) .nil
theorem rda_cons {a : IE} {es : List IE} {ρ : L2.St} {H : Hp} {Q : List V → Hp → Prop} (h : rdA C (step g r) l (a :: es) ρ H Q) : tCons (rdE C r l a) (rdA C r l es) ρ H Q := by
  obtain ⟨ι, σ, h, sr, rs, ts, h', e, k⟩ := h
  replace e : stepEs r l (a :: es) σ h = some (ts, h') := e
  simp only [stepEs] at e
  split at e
  · rename_i x h1 e1
    split at e
    · rename_i xs h2 e2
      cases e
      exact ⟨ι, σ, h, sr, rs, x, h1, e1, fun ι1 H1 v1 to1 r1 => ⟨ι1, σ, h1, to1.sr, to1.repS sr rs, xs, _, e2, fun ι2 H2 v2 to2 r2 =>
        k _ _ _ (to1.trans to2) (.cons (to2.rep to1.sr r1) r2)⟩⟩
    · cases e
  · cases e
theorem star_cons {e : Expr} {es : List Expr} {env : Env} (h : noStar e = true) : starEach (e :: es) env = (false, eval e env) :: starEach es env := by
  cases e <;> first | rfl | cases h
theorem star_plain : ∀ {es : List Expr} {env : Env} {pos : Pos}, es.all noStar = true → (backTo pos (starEach es env)).any (·.1) = false
  | [], _, _, _ => rfl
  | e :: es, env, pos, h => by
    rw [List.all_cons, Bool.and_eq_true] at h
    rw [star_cons h.1]
    unfold backTo
    rw [List.map_cons, List.any_cons]
    exact star_plain (es := es) (pos := pos) h.2
end
end Gn

/-! The engine is right, part 2: calls of defs. -/
namespace Gn
open PySem PySem.Spec PyProof.Rows L2

section
variable {K : PySem.W.Frag} {C : Tx} {H H' : Hp} {ι ι' : List Addr} {h h0 : Hi}
theorem shiftL_map (k : Nat) : ∀ ts : List T, T.shiftL k ts = ts.map (T.shift k)
  | [] => rfl
  | t :: ts => by unfold T.shiftL; rw [shiftL_map k ts]; rfl
theorem Rep.shift {t : T} {v : V} (r : Rep K H ι' t v) : Rep K H (ι ++ ι') (t.shift ι.length) v := by
  refine Rep.rec (K := K) (H := H) (ι := ι') (motive_1 := fun t v _ => Rep K H (ι ++ ι') (t.shift ι.length) v) (motive_2 := fun ts vs _ => RepL K H (ι ++ ι') (T.shiftL ι.length ts) vs) ?_ ?_ ?_ ?_ ?_ ?_ ?_ ?_ ?_ r
  · exact .non
  · exact fun b => .bl b
  · exact fun i => .int i
  · exact fun x => .str x
  · exact fun s _ q => .tup s q
  · intro i a e
    refine .ref ?_
    rw [List.getElem?_append_right (Nat.le_add_left _ _), Nat.add_sub_cancel]; exact e
  · exact fun e d => .tz e d
  · exact .nil
  · exact fun _ _ q qs => .cons q qs
theorem RepL.shift : ∀ {ts : List T} {vs : List V}, RepL K H ι' ts vs → RepL K H (ι ++ ι') (T.shiftL ι.length ts) vs
  | [], _, r => by cases r; exact .nil
  | t :: ts, _, r => by
    cases r with
    | cons r1 r2 => exact .cons r1.shift (RepL.shift r2)
/-- a flat tree stands without the engine's objects -/
theorem Rep.flat (ι2 : List Addr) {t : T} {v : V} (r : Rep K H ι t v) : t.flat = true → Rep K H ι2 t v := by
  refine Rep.rec (K := K) (H := H) (ι := ι) (motive_1 := fun t v _ => t.flat = true → Rep K H ι2 t v) (motive_2 := fun ts vs _ => T.flatL ts = true → RepL K H ι2 ts vs) ?_ ?_ ?_ ?_ ?_ ?_ ?_ ?_ ?_ r
  · exact fun _ => .non
  · exact fun b _ => .bl b
  · exact fun i _ => .int i
  · exact fun x _ => .str x
  · exact fun s _ q f => .tup s (q f)
  · exact fun _ f => nomatch f
  · exact fun e d _ => .tz e d
  · exact fun _ => .nil
  · intro t v ts vs _ _ q qs f
    obtain ⟨f1, f2⟩ := Bool.and_eq_true_iff.mp (show (t.flat && T.flatL ts) = true from f)
    exact .cons (q f1) (qs f2)
theorem RepL.flat (ι2 : List Addr) : ∀ {ts : List T} {vs : List V}, RepL K H ι ts vs → T.flatL ts = true → RepL K H ι2 ts vs
  | [], _, r, _ => by cases r; exact .nil
  | t :: ts, _, r, f => by
    obtain ⟨f1, f2⟩ := Bool.and_eq_true_iff.mp (show (t.flat && T.flatL ts) = true from f)
    cases r with
    | cons r1 r2 => exact .cons (r1.flat ι2 f1) (RepL.flat ι2 r2 f2)
theorem MOk.shift {a : Addr} {o : MO} (m : MOk C H ι' a o) : MOk C H (ι ++ ι') a (o.shift ι.length) := by
  cases o with
  | lst ts => obtain ⟨vs, q, r⟩ := m; exact ⟨vs, q, r.shift⟩
  | dk kvs =>
    obtain ⟨ws, q, r⟩ := m
    refine ⟨ws, q, ?_⟩
    clear q
    induction r with
    | nil => exact .nil
    | cons h1 _ ih => exact .cons ⟨h1.1, h1.2.shift⟩ ih
  | lk kvs =>
    obtain ⟨ob, ws, q, r⟩ := m
    refine ⟨ob, ws, q, ?_⟩
    clear q
    induction r with
    | nil => exact .nil
    | cons h1 _ ih => exact .cons ⟨h1.1, h1.2.shift⟩ ih
  | dn kvs =>
    obtain ⟨xs, q1, q2, q3, r⟩ := m
    refine ⟨xs, q1, q2, q3, ?_⟩
    clear q1 q3
    have fl : ∀ (n : Nat) (t : T) (k : NestedKey), T.nk n t = some k → t.flat = true := by
      intro n
      induction n with
      | zero => intro t k e; cases e
      | succ n ih =>
        intro t k e
        cases t with
        | tup ts =>
          unfold T.nk at e
          simp only at e
          split at e
          · rename_i ks ek
            clear e
            show T.flatL ts = true
            induction ts generalizing ks with
            | nil => rfl
            | cons t ts iht =>
              unfold mapO at ek
              split at ek
              · rename_i b eb
                split at ek
                · rename_i bs ebs
                  show (t.flat && T.flatL ts) = true
                  rw [ih _ _ eb, iht _ ebs]; rfl
                · cases ek
              · cases ek
          · cases e
        | ref i => cases e
        | tz i => cases e
        | _ => rfl
    have flk : ∀ (t : T) (k : NestedKey), T.keyN t = some k → t.flat = true := fun t k e => by
      cases t with
      | tup ts => exact fl 8 _ k e
      | _ => cases e
    induction r with
    | nil => exact .nil
    | cons h1 _ ih =>
      obtain ⟨z1, z2, z3, v, z4, z5⟩ := h1
      exact .cons ⟨z1, z2, z3.flat _ (flk _ _ z2), v, z4, z5.shift⟩ ih
  | obj x fs =>
    obtain ⟨A, dx, ws, q1, q2, q3, q4, r⟩ := m
    refine ⟨A, dx, ws, q1, q2, q3, q4, fun i t e => ?_⟩
    rw [List.getElem?_map] at e
    cases e1 : fs[i]? with
    | none => rw [e1] at e; cases e
    | some p =>
      rw [e1] at e
      cases p with
      | none => cases e
      | some u =>
        cases e
        obtain ⟨v, e2, r2⟩ := r i u e1
        exact ⟨v, e2, r2.shift⟩
/-- the engine's objects as they stand behind a call that knew none of them -/
theorem SR.behind (s : SR C ι h H) (to : To C [] H ι' h0 H') {ι2 : List Addr} {i : Nat} {a : Addr} {o : MO} (e1 : ι[i]? = some a) (e2 : h[i]? = some o) (hi : ∀ (i : Nat) (a : Addr), ι[i]? = some a → ι2[i]? = some a) : MOk C H' ι2 a o := by
  have kp : ∀ b o, H b = some o → H' b = some o := fun b o e => to.keep b o e (by simp)
  have ht : KeepT C.K H H' := ⟨fun b xs q => by
    rcases q with (q | ⟨ob, q⟩) | q
    · exact .inl (.inl (kp _ _ q))
    · exact .inl (.inr ⟨ob, kp _ _ q⟩)
    · exact .inr q, fun b o u q => kp _ _ q⟩
  obtain ⟨u, eu⟩ := s.there (List.mem_of_getElem? e1)
  exact (s.ok i a o e1 e2).at_ (by rw [eu]; exact kp _ _ eu) (fun b ps q => kp _ _ q) ht hi
theorem To.drop (s : SR C ι h H) (to : To C [] H ι' h0 H') : To C ι H ι h H' :=
  ⟨⟨[], by simp, by simp⟩, fun b o e _ => to.keep b o e (by simp), to.frz, s.len, s.nd, fun i a o e1 e2 => s.behind to e1 e2 fun _ _ e => e⟩
theorem To.more (to : To C [] H ι' h0 H') : ∀ a ∈ ι', H a = none := by
  obtain ⟨m, e, f⟩ := to.ext
  rw [List.nil_append] at e
  subst e
  exact f
theorem To.embed (s : SR C ι h H) (to : To C [] H ι' h0 H') : To C ι H (ι ++ ι') (h ++ h0.map (MO.shift h.length)) H' := by
  have mo := to.more
  refine ⟨⟨ι', rfl, mo⟩, fun b o e _ => to.keep b o e (by simp), to.frz, ?_, ?_, fun i a o e1 e2 => ?_⟩
  · rw [List.length_append, List.length_append, List.length_map, s.len, to.sr.len]
  · rw [List.nodup_append]
    refine ⟨s.nd, to.sr.nd, fun a ha b hb z => ?_⟩
    subst z
    obtain ⟨o, e⟩ := s.there ha
    rw [mo a hb] at e; cases e
  · by_cases hi : i < ι.length
    · rw [List.getElem?_append_left hi] at e1
      rw [List.getElem?_append_left (by rw [← s.len]; exact hi)] at e2
      exact s.behind to e1 e2 ids_more
    · rw [List.getElem?_append_right (by omega)] at e1
      rw [List.getElem?_append_right (by rw [← s.len]; omega), List.getElem?_map, ← s.len] at e2
      cases e3 : h0[i - ι.length]? with
      | none => rw [e3] at e2; cases e2
      | some o' =>
        rw [e3] at e2
        cases e2
        exact (to.sr.ok _ a o' e1 e3).shift
/-- one list kept of them -/
theorem To.one (s : SR C ι h H) (to : To C [] H ι' h0 H') {i : Nat} {a : Addr} {us : List T} (hi : ι'[i]? = some a) (e : h0[i]? = some (.lst us)) (f : T.flatL us = true) : To C ι H (ι ++ [a]) (h ++ [.lst us]) H' := by
  have mo := to.more
  have ha : H a = none := mo a (List.mem_of_getElem? hi)
  refine ⟨⟨[a], rfl, fun b hb => by simp at hb; subst hb; exact ha⟩, fun b o e _ => to.keep b o e (by simp), to.frz, by simp [s.len], ?_, fun j b o e1 e2 => ?_⟩
  · rw [List.nodup_append]
    refine ⟨s.nd, by simp, fun b hb c hc z => ?_⟩
    simp at hc
    subst hc
    subst z
    obtain ⟨o, e⟩ := s.there hb
    rw [ha] at e; cases e
  · by_cases hj : j < ι.length
    · rw [List.getElem?_append_left hj] at e1
      rw [List.getElem?_append_left (by rw [← s.len]; exact hj)] at e2
      exact s.behind to e1 e2 ids_more
    · have hl : j < (ι ++ [a]).length := (List.getElem?_eq_some_iff.mp e1).1
      have hj2 : j = ι.length := by simp at hl; omega
      subst hj2
      simp at e1
      rw [show ι.length = h.length from s.len] at e2
      simp at e2
      subst e1 e2
      obtain ⟨vs, q, r⟩ := to.sr.ok i a _ hi e
      exact ⟨vs, q, r.flat _ f⟩
theorem sr_nil {C : Tx} {H : Hp} : SR C [] [] H := ⟨rfl, List.nodup_nil, fun i a o e => by simp at e⟩
end
section
variable {C : Tx} {g : Gt} {f : FI} {l : Nat}
/-- a def in the heap as it stands answers for a def in a heap of its own -/
theorem spF_R {vs : List V} {H : Hp} {Q : VK} {E : XK} (q : spF C g f l vs H Q E) : spR C g f l vs H Q E := by
  obtain ⟨n, ι, h, ts, t, h', sr, rl, e, k⟩ := q
  unfold callF at e
  cases hb : Nat.beq ts.length f.pars with
  | false => rw [hb] at e; cases e
  | true =>
    rw [hb] at e
    have hl : ts.length = f.pars := Nat.eq_of_beq_eq_true hb
    simp only [cond_true] at e
    cases hf : T.flatL ts with
    | false =>
      rw [hf] at e
      exact ⟨n, ι, h, ts, t, h', sr, rl, hl, e, k⟩
    | true =>
      rw [hf] at e
      simp only [cond_true] at e
      cases er : runF (run g n) l f ts [] with
      | none => rw [er] at e; cases e
      | some p =>
        obtain ⟨t0, h0⟩ := p
        rw [er] at e
        refine ⟨n, [], [], ts, t0, h0, sr_nil, rl.flat _ hf, hl, er, fun ι' H' v to r => ?_⟩
        unfold backF at e
        simp only at e
        cases hft : t0.flat with
        | true =>
          rw [hft] at e
          cases e
          exact k ι H' v (to.drop sr) (r.flat _ hft)
        | false =>
          rw [hft] at e
          simp only [cond_false] at e
          have all : ∀ u, some (allF h u h0) = some (t, h') → u = t0 → Q v H' := by
            intro u e1 e2
            subst e2
            cases e1
            have := k _ H' v (to.embed sr) (by rw [← sr.len]; exact r.shift)
            exact this
          split at e
          · rename_i i
            split at e
            · rename_i us hus
              cases hfu : T.flatL us with
              | false => rw [hfu] at e; exact all _ e rfl
              | true =>
                rw [hfu] at e
                cases e
                cases r with
                | ref hi => exact k _ H' _ (to.one sr hi hus hfu) (by rw [← sr.len]; exact .ref (by simp))
            · exact all _ e rfl
          · exact all _ e rfl
end
end Gn

/-! The engine is right, part 3: methods, slices, displays, built-ins. -/
namespace Gn
open PySem PySem.Spec PyProof.Rows L2

/-! ### slices -/
theorem sIx_ok (n d : Nat) (o : Option Int) : sIxT n d o = HT.sIx n d o := by
  cases o with
  | none => rfl
  | some v =>
    unfold sIxT HT.sIx
    cases v with
    | ofNat k =>
      show (bif Nat.ble k n then k else n) = if Int.ofNat k < 0 then (Int.ofNat k + (n : Int)).toNat else min (Int.ofNat k).toNat n
      rw [if_neg (show ¬ (Int.ofNat k < 0) from Int.not_lt.mpr (Int.natCast_nonneg k))]
      cases h : Nat.ble k n with
      | true =>
        have := Nat.le_of_ble_eq_true h
        simp only [h, cond_true]
        show k = min k n
        omega
      | false =>
        have : ¬ k ≤ n := fun z => by rw [Nat.ble_eq_true_of_le z] at h; cases h
        simp only [h, cond_false]
        show n = min k n
        omega
    | negSucc k =>
      show n - (k + 1) = if Int.negSucc k < 0 then (Int.negSucc k + (n : Int)).toNat else min (Int.negSucc k).toNat n
      rw [if_pos (Int.negSucc_lt_zero k)]
      omega
section
variable {K : PySem.W.Frag} {C : Tx} {H : Hp} {ι : List Addr} {h : Hi} {g : Gt} {r : Rec} {l : Nat}
theorem cut_rep {ts : List T} {vs : List V} (rl : RepL K H ι ts vs) (lo hi : Option Int) : RepL K H ι (cutT ts lo hi) (cutV vs lo hi) := by
  unfold cutT cutV
  rw [sIx_ok, sIx_ok, rl.length]
  exact (rl.drop _).take _
abbrev rSlc (C : Tx) : V → Option Int → Option Int → Hp → VK → Prop := fun xv lo hi H Q => ∃ ι h x t h', SR C ι h H ∧ Rep C.K H ι x xv ∧ slcT h x lo hi = some (t, h') ∧ PV C ι H t h' Q
theorem slc_ok {X : Cx} : SlR X (rSlc X.tx) := by
  intro pins s σ H xv v vl vu lo hi sl Q I rx hs pl pu ⟨ι, h, x, t, h', sr, rep, e, k⟩
  unfold slcT at e
  split at e
  · cases e
    obtain ⟨a, xs, rfl, st, rl⟩ := rep.tupE
    refine sl_tupA pins s σ H _ v vl vu lo hi sl Q I rx hs pl pu ⟨a, xs, rfl, st, fun hw => ?_, fun _ p hp => k ι _ _ (To.tup sr hp) (rep_tup hp (cut_rep rl lo hi))⟩
    refine k ι H _ (To.refl sr) (.tup st ?_)
    have := cut_rep rl lo hi
    have e2 : cutV xs lo hi = xs := by
      unfold cutV
      rw [hw.1, hw.2, List.drop_zero, Nat.sub_zero, List.take_length]
    rw [e2] at this
    exact this
  · split at e
    · rename_i hl
      cases e
      obtain ⟨a, xs, rfl, hi', ha, rl⟩ := sr.lst rep hl
      exact sl_list pins s σ H _ v vl vu lo hi sl Q I rx hs pl pu ⟨a, xs, rfl, sqL_of ha, fun p hp => k _ _ _ (To.lst sr hp (cut_rep rl lo hi)) (rep_new sr)⟩
    · cases e
  · cases e
abbrev rdO (C : Tx) (r : Rec) (l : Nat) (o : Option IE) : TO := fun ρ H Q => ∃ ι σ h, SR C ι h H ∧ RepS C.K H ι σ ρ ∧ ∃ i h', optE r l o σ h = some (i, h') ∧ ∀ ι' H', To C ι H ι' h' H' → Q i H'
theorem poW {X : Cx} {e : Option Expr} {t t' : TO} (h : PO X e t) (w : ∀ ρ H Q, t' ρ H Q → t ρ H Q) : PO X e t' := ⟨fun pins s σ H Q I q => h.run pins s σ H Q I (w _ _ _ q)⟩
theorem snd_opt {X : Cx} {f : Expr → IE} (hp : ∀ e, PE X e (rdE X.tx r l (f e))) (o : Option Expr) : PO X o (rdO X.tx r l (o.map f)) := by
  cases o with
  | none =>
    refine poW po_none fun ρ H Q ⟨ι, σ, h, sr, rs, i, h', e, k⟩ => ?_
    replace e : some (none, h) = some (i, h') := e
    cases e
    exact k ι H (To.refl sr)
  | some e =>
    refine poW (po_some (hp e)) fun ρ H Q ⟨ι, σ, h, sr, rs, i, h', e', k⟩ => ?_
    replace e' : (match r.e l (f e) σ h with | some (.int i, h') => some (some i, h') | _ => none) = some (i, h') := e'
    split at e'
    · rename_i j h1 e1
      cases e'
      exact ⟨ι, σ, h, sr, rs, _, _, e1, fun ι1 H1 v1 to1 r1 => ⟨j, r1.intE, k _ _ to1⟩⟩
    · cases e'
theorem rd_slc {a : IE} {lo hi : Option IE} {ρ : L2.St} {H : Hp} {Q : VK} (h : rdE C (step g r) l (.slc a lo hi) ρ H Q) : tSl (rSlc C) (rdE C r l a) (rdO C r l lo) (rdO C r l hi) ρ H Q := by
  obtain ⟨ι, σ, h, sr, rs, t, h', e, k⟩ := h
  replace e : stepE g r l (.slc a lo hi) σ h = some (t, h') := e
  simp only [stepE] at e
  split at e
  · rename_i x h1 e1
    split at e
    · rename_i i h2 e2
      split at e
      · rename_i j h3 e3
        exact ⟨ι, σ, h, sr, rs, x, h1, e1, fun ι1 H1 v1 to1 r1 => ⟨ι1, σ, h1, to1.sr, to1.repS sr rs, i, h2, e2, fun ι2 H2 to2 =>
          ⟨ι2, σ, h2, to2.sr, to2.repS to1.sr (to1.repS sr rs), j, h3, e3, fun ι3 H3 to3 => ⟨ι3, h3, x, t, h', to3.sr, to3.rep to2.sr (to2.rep to1.sr r1), e, fun ι4 H4 v4 to4 r4 => k _ _ _ (((to1.trans to2).trans to3).trans to4) r4⟩⟩⟩⟩
      · cases e
    · cases e
  · cases e
/-! ### displays -/
theorem rd_tup {es : List IE} {ρ : L2.St} {H : Hp} {Q : VK} (h : rdE C (step g r) l (.tup es) ρ H Q) : tTup (rdA C r l es) ρ H Q := by
  obtain ⟨ι, σ, h, sr, rs, t, h', e, k⟩ := h
  replace e : stepE g r l (.tup es) σ h = some (t, h') := e
  simp only [stepE] at e
  split at e
  · rename_i ts h1 e1
    obtain ⟨hz, e⟩ := bif_some e
    cases e
    refine ⟨ι, σ, h, sr, rs, ts, _, e1, fun ι1 H1 vs to1 r1 => ⟨by rw [r1.length]; exact small_ok hz, fun p hp => k _ _ _ (to1.trans (To.tup to1.sr hp)) (rep_tup hp r1)⟩⟩
  · cases e
theorem rd_lst {es : List IE} {ρ : L2.St} {H : Hp} {Q : VK} (h : rdE C (step g r) l (.lst es) ρ H Q) : tLst (rdA C r l es) ρ H Q := by
  obtain ⟨ι, σ, h, sr, rs, t, h', e, k⟩ := h
  replace e : stepE g r l (.lst es) σ h = some (t, h') := e
  simp only [stepE] at e
  split at e
  · rename_i ts h1 e1
    obtain ⟨hz, e⟩ := bif_some e
    cases e
    refine ⟨ι, σ, h, sr, rs, ts, _, e1, fun ι1 H1 vs to1 r1 => ⟨by rw [r1.length]; exact small_ok hz, fun p hp => k _ _ _ (to1.trans (To.lst to1.sr hp r1)) (rep_new to1.sr)⟩⟩
  · cases e
abbrev rdSt (C : Tx) (r : Rec) (l : Nat) (es : List (Bool × IE)) : TA := fun ρ H Q => ∃ ι σ h, SR C ι h H ∧ RepS C.K H ι σ ρ ∧ ∃ ts h', tupST r l es σ h = some (ts, h') ∧ ∀ ι' H' vs, To C ι H ι' h' H' → RepL C.K H' ι' ts vs → Q vs H'
theorem stE_no {f : Expr → IE} {e : Expr} (h : noStar e = true) : stE f e = (false, f e) := by
  cases e <;> first | rfl | cases h
theorem snd_star {X : Cx} {f : Expr → IE} (hp : ∀ e, PE X e (rdE X.tx r l (f e))) : ∀ es : List Expr, PA X es (rdSt X.tx r l (es.map (stE f)))
  | [] => paW pa_nil fun ρ H Q ⟨ι, σ, h, sr, rs, ts, h', e, k⟩ => by
    replace e : some (([] : List T), h) = some (ts, h') := e
    cases e
    exact k _ _ _ (To.refl sr) .nil
  | e :: es => by
    have ih := snd_star hp es
    have go : noStar e = true → PA X (e :: es) (rdSt X.tx r l ((e :: es).map (stE f))) := fun hn => by
      refine paW (pa_cons (hp e) ih (star_cons hn)) fun ρ H Q ⟨ι, σ, h, sr, rs, ts, h', e', k⟩ => ?_
      rw [List.map_cons, stE_no hn] at e'
      simp only [tupST] at e'
      split at e'
      · rename_i x h1 e1
        simp only [cond_false] at e'
        split at e'
        · rename_i ys h2 e2
          cases e'
          exact ⟨ι, σ, h, sr, rs, x, h1, e1, fun ι1 H1 v1 to1 r1 => ⟨ι1, σ, h1, to1.sr, to1.repS sr rs, ys, _, e2, fun ι2 H2 v2 to2 r2 =>
            k _ _ _ (to1.trans to2) (.cons (to2.rep to1.sr r1) r2)⟩⟩
        · cases e'
      · cases e'
    cases e with
    | Starred d p =>
      refine paW (StX.pa_star (hp d) ih rfl) fun ρ H Q ⟨ι, σ, h, sr, rs, ts, h', e', k⟩ => ?_
      replace e' : tupST r l ((true, f d) :: es.map (stE f)) σ h = some (ts, h') := e'
      simp only [tupST] at e'
      split at e'
      · rename_i x h1 e1
        simp only [cond_true] at e'
        split at e'
        · rename_i xs exs
          split at e'
          · rename_i ys h2 e2
            cases e'
            refine ⟨ι, σ, h, sr, rs, x, h1, e1, fun ι1 H1 v1 to1 r1 => ?_⟩
            obtain ⟨a, vs, rfl, rls, q⟩ := seqT_ok to1.sr exs r1
            refine ⟨a, vs, rfl, ?_, ι1, σ, h1, to1.sr, to1.repS sr rs, ys, _, e2, fun ι2 H2 v2 to2 r2 => k _ _ _ (to1.trans to2) ((to2.repL to1.sr rls).append r2)⟩
            rcases q with ⟨_, _, _, q⟩ | ⟨_, _, q, _⟩
            · exact .inl q
            · exact .inr (sqL_of q)
          · cases e'
        · cases e'
      · cases e'
    | _ => exact go rfl
theorem rd_tupS {es : List (Bool × IE)} {ρ : L2.St} {H : Hp} {Q : VK} (h : rdE C (step g r) l (.tupS es) ρ H Q) : tTup (rdSt C r l es) ρ H Q := by
  obtain ⟨ι, σ, h, sr, rs, t, h', e, k⟩ := h
  replace e : stepE g r l (.tupS es) σ h = some (t, h') := e
  simp only [stepE] at e
  split at e
  · rename_i ts h1 e1
    obtain ⟨hz, e⟩ := bif_some e
    cases e
    refine ⟨ι, σ, h, sr, rs, ts, _, e1, fun ι1 H1 vs to1 r1 => ⟨by rw [r1.length]; exact small_ok hz, fun p hp => k _ _ _ (to1.trans (To.tup to1.sr hp)) (rep_tup hp r1)⟩⟩
  · cases e
theorem rd_lstS {es : List (Bool × IE)} {ρ : L2.St} {H : Hp} {Q : VK} (h : rdE C (step g r) l (.lstS es) ρ H Q) : tLst (rdSt C r l es) ρ H Q := by
  obtain ⟨ι, σ, h, sr, rs, t, h', e, k⟩ := h
  replace e : stepE g r l (.lstS es) σ h = some (t, h') := e
  simp only [stepE] at e
  split at e
  · rename_i ts h1 e1
    obtain ⟨hz, e⟩ := bif_some e
    cases e
    refine ⟨ι, σ, h, sr, rs, ts, _, e1, fun ι1 H1 vs to1 r1 => ⟨by rw [r1.length]; exact small_ok hz, fun p hp => k _ _ _ (to1.trans (To.lst to1.sr hp r1)) (rep_new to1.sr)⟩⟩
  · cases e
/-! ### built-ins -/
theorem rd_bi {b : BI} {es : List IE} {ρ : L2.St} {H : Hp} {Q : VK} (h : rdE C (step g r) l (.bi b es) ρ H Q) : tCB (rBi C b) (rdA C r l es) ρ H Q := by
  obtain ⟨ι, σ, h, sr, rs, t, h', e, k⟩ := h
  replace e : stepE g r l (.bi b es) σ h = some (t, h') := e
  simp only [stepE] at e
  split at e
  · rename_i ts h1 e1
    exact ⟨ι, σ, h, sr, rs, ts, h1, e1, fun ι1 H1 vs to1 r1 => ⟨ι1, h1, ts, t, h', to1.sr, r1, e, fun ι2 H2 v2 to2 r2 => k _ _ _ (to1.trans to2) r2⟩⟩
  · cases e
theorem rd_isi {ty : String} {a : IE} {ρ : L2.St} {H : Hp} {Q : VK} (h : rdE C (step g r) l (.isi a ty) ρ H Q) :
    tCB (fun vs H Q => ∃ ι h x v b, SR C ι h H ∧ Rep C.K H ι x v ∧ vs = [v, .ty ty] ∧ isiT h x ty = some b ∧ Q (.bl b) H) (tCons (rdE C r l a) (tCons (tC (.ty ty)) tNil)) ρ H Q := by
  obtain ⟨ι, σ, h, sr, rs, t, h', e, k⟩ := h
  replace e : stepE g r l (.isi a ty) σ h = some (t, h') := e
  simp only [stepE] at e
  split at e
  · rename_i x h1 e1
    split at e
    · rename_i b e2
      cases e
      exact ⟨ι, σ, h, sr, rs, x, _, e1, fun ι1 H1 v1 to1 r1 => ⟨ι1, _, x, v1, b, to1.sr, r1, rfl, e2, k _ _ _ to1 (.bl _)⟩⟩
    · cases e
  · cases e
/-! ### methods -/
theorem few_ok {es : List Expr} {env : Env} {pos : Pos} (hn : es.all noStar = true) (hl : es.length < 20) : ((backTo pos (starEach es env)).all (fun x => !x.1) && (backToKw pos (keywordEach [] env)).all (fun x => x.1.isSome)
      && decide (es.length + ([] : List Keyword).length + (if ([] : List Keyword).isEmpty then 0 else 1) < 30)) = true := by
  have h1 : (backTo pos (starEach es env)).all (fun x => !x.1) = true := by
    have := star_plain (es := es) (env := env) (pos := pos) hn
    rw [List.all_eq_true]
    intro x hx
    rw [List.any_eq_false] at this
    have := this x hx
    simpa using this
  have h2 : (backToKw pos (keywordEach [] env)).all (fun x => x.1.isSome) = true := rfl
  have h3 : decide (es.length + ([] : List Keyword).length + (if ([] : List Keyword).isEmpty then 0 else 1) < 30) = true := by
    refine decide_eq_true ?_
    show es.length + 0 + 0 < 30
    omega
  rw [h1, h2, h3]; rfl
theorem base_ok {o : Expr} {m : Str} {env : Env} {whole : Sem Value} (h : noSup o = true) : attributeBase o m env whole = whole := by
  cases o <;> first | rfl | cases h
end
end Gn

/-! The engine is right, part 4: methods of lists, dicts and ints. -/
namespace Gn
open PySem PySem.Spec PyProof.Rows L2

def MI.id : MI → String
  | .append => "list.append" | .extend => "list.extend" | .pop => "list.pop" | .popA => "list.pop" | .popD => "dict.pop" | .insert => "list.insert" | .count => "list.count" | .bitlen => "int.bit_length" | .get => "dict.get" | .update => "dict.update"
def MI.ty : MI → String
  | .append => "list" | .extend => "list" | .pop => "list" | .popA => "list" | .popD => "dict" | .insert => "list" | .count => "list" | .bitlen => "int" | .get => "dict" | .update => "dict"
def MI.nm : MI → Str
  | .append => "append" | .extend => "extend" | .pop => "pop" | .popA => "pop" | .popD => "pop" | .insert => "insert" | .count => "count" | .bitlen => "bit_length" | .get => "get" | .update => "update"
abbrev rMth (C : Tx) (m : MI) : V → List V → Hp → VK → Prop := fun xv vs H Q => ∃ ι h x ts t h', SR C ι h H ∧ Rep C.K H ι x xv ∧ RepL C.K H ι ts vs ∧ mthT m x ts h = some (t, h') ∧ PV C ι H t h' Q
section
variable {K : PySem.W.Frag} {C : Tx} {H : Hp} {ι : List Addr} {h : Hi} {X : Cx}
theorem repL0 {vs : List V} (r : RepL K H ι [] vs) : vs = [] := by cases r; rfl
theorem seq_of_ix {n : Nat} {i : Int} {j : Nat} (e : ixT n i = some j) : seqIndex? i n = some j := (ixN_seq (ixT_ok e)).1
theorem updM_eq : ∀ (ls : List (Key × T)) (kvs : List (Key × T)), updM kvs ls = ls.foldl (fun acc kv => putM acc kv.1 kv.2) kvs
  | [], _ => rfl
  | (k, v) :: r, kvs => by unfold updM; rw [updM_eq r]; rfl
theorem updM_ok {ls : List (Key × T)} {ms : List (Key × V)} (r : RepK K H ι ls ms) : ∀ {kvs : List (Key × T)} {ws : List (Key × V)}, RepK K H ι kvs ws → RepK K H ι (updM kvs ls) (mergeK ws ms) := by
  induction r with
  | nil => intro kvs ws q; exact q
  | @cons a b _ _ h1 _ ih =>
    intro kvs ws q
    obtain ⟨k, t⟩ := a
    obtain ⟨k', v⟩ := b
    obtain ⟨e, r⟩ := h1
    have e' : k = k' := e
    subst e'
    exact ih (putM_ok k r q)
theorem mergeK_len (ms : List (Key × V)) : ∀ ws : List (Key × V), (mergeK ws ms).length ≤ ws.length + ms.length := by
  induction ms with
  | nil => intro ws; exact Nat.le_add_right _ _
  | cons m ms ih =>
    intro ws
    have h1 := ih (putK ws m.1 m.2)
    have h2 := length_putK ws m.1 m.2
    show (mergeK (putK ws m.1 m.2) ms).length ≤ ws.length + (ms.length + 1)
    omega
theorem mth_ok (hu : X.A.units + 65 < cLine) (m : MI) (hm : m ≠ .bitlen) : MtR X m.id (rMth X.tx m) := by
  intro pins s σ H xv vs v us Q I rx rv ⟨ι, h, x, ts, t, h', sr, rep, rl, e, k⟩
  unfold mthT at e
  split at e
  · split at e
    · exact absurd rfl hm
    · cases e
  · rename_i r
    split at e
    · rename_i ls hl
      obtain ⟨a, xs, rfl, hi, ha, rls⟩ := sr.lst rep hl
      have nf : ∀ ob u, H a ≠ some (.frz ob u) := fun ob u q => by rw [ha] at q; cases q
      have kt := fun (o : HO) => sr.keepT_set (o := o) (List.mem_of_getElem? hi) nf
      unfold mthL at e
      split at e
      · obtain ⟨hz, e⟩ := bif_some e
        cases e
        obtain ⟨y, rfl, ry⟩ := repL1 rl
        have hz := small_ok hz
        have hlen := rls.length
        exact mt_append pins s σ H _ _ v us Q I rx rv ⟨a, xs, y, rfl, rfl, ha, by omega, k ι _ _ (To.set sr hi ⟨_, upd_same, (rls.append (.cons ry .nil)).at_ (kt _) fun _ _ e => e⟩ (kt _)) .non⟩
      · split at e
        · rename_i us' hq
          obtain ⟨hz, e⟩ := bif_some e
          cases e
          obtain ⟨y, rfl, ry⟩ := repL1 rl
          obtain ⟨b, zs, rfl, hj, hb, rlz⟩ := sr.lst ry hq
          have hz := small_ok hz
          have h1 := rls.length
          have h2 := rlz.length
          exact mt_extend pins s σ H _ _ v us Q I rx rv ⟨a, b, xs, zs, rfl, rfl, ha, hb, by omega, k ι _ _ (To.set sr hi ⟨_, upd_same, (rls.append rlz).at_ (kt _) fun _ _ e => e⟩ (kt _)) .non⟩
        · cases e
      · split at e
        · rename_i y hy
          cases e
          cases repL0 rl
          rw [← rls.length] at hy
          obtain ⟨w, ew, rw'⟩ := rls.get hy
          have hd : RepL X.K H ι ls.dropLast xs.dropLast := by
            rw [List.dropLast_eq_take, List.dropLast_eq_take, rls.length]
            exact rls.take _
          have to := To.set (C := X.tx) sr hi (mo := .lst ls.dropLast) ⟨_, upd_same, hd.at_ (kt _) fun _ _ e => e⟩ (kt _)
          exact mt_pop pins s σ H _ _ v us Q I rx rv ⟨a, xs, w, rfl, rfl, ha, ew, k ι _ _ to (to.rep sr rw')⟩
        · cases e
      · split at e
        · rename_i j hj
          split at e
          · rename_i y hy
            cases e
            obtain ⟨q, rfl, rq⟩ := repL1 rl
            have eq := rq.intE
            subst eq
            obtain ⟨w, ew, rw'⟩ := rls.get hy
            rw [← rls.length] at hj
            obtain ⟨h1, h2, h3, h4⟩ := ixN_seq (ixT_ok hj)
            obtain ⟨z, _, _, _, _⟩ := I.lstM ha
            have hn := line63
            have hsz := sizeLine_eq
            have to := To.set (C := X.tx) sr hi (mo := .lst (ls.eraseIdx j)) ⟨_, upd_same, (rls.eraseIdx j).at_ (kt _) fun _ _ e => e⟩ (kt _)
            exact mt_popAt pins s σ H _ _ v us Q I rx rv ⟨a, xs, _, j, w, rfl, rfl, ha, by omega, by omega, h1, ew, k ι _ _ to (to.rep sr rw')⟩
          · cases e
        · cases e
      · obtain ⟨hz, e⟩ := bif_some e
        cases e
        obtain ⟨hz, hb⟩ := Bool.and_eq_true_iff.mp hz
        obtain ⟨hz, h0⟩ := Bool.and_eq_true_iff.mp hz
        have hz := small_ok hz
        have h0 := of_decide_eq_true h0
        have hb := absLt_ok hb
        obtain ⟨q, w, rfl, rq, rw'⟩ := repL2 rl
        have eq := rq.intE
        subst eq
        have hlen := rls.length
        exact mt_insert pins s σ H _ _ v us Q I rx rv ⟨a, xs, _, w, rfl, rfl, ha, by omega, h0, by omega, k ι _ _ (To.set sr hi ⟨_, upd_same, (((rls.take _).append (.cons rw' .nil)).append (rls.drop _)).at_ (kt _) fun _ _ e => e⟩ (kt _)) .non⟩
      · split at e
        · rename_i is his
          cases e
          obtain ⟨q, rfl, rq⟩ := repL1 rl
          have eq := rq.intE
          subst eq
          have := mapI_ok his rls
          subst this
          exact mt_lcount pins s σ H _ _ v us Q I rx rv ⟨a, is, _, rfl, rfl, sqL_of ha, k ι _ _ (To.refl sr) (.int _)⟩
        · cases e
      · cases e
    · rename_i kvs hl
      obtain ⟨a, ws, rfl, hi, ha, rk⟩ := sr.dk rep hl
      have nf : ∀ ob u, H a ≠ some (.frz ob u) := fun ob u q => by rw [ha] at q; cases q
      have kt := fun (o : HO) => sr.keepT_set (o := o) (List.mem_of_getElem? hi) nf
      unfold mthD at e
      cases rx
      split at e
      · split at e
        · rename_i key ek
          obtain ⟨q, w, rfl, rq, rw'⟩ := repL2 rl
          have eq := key_ok ek rq
          subst eq
          obtain ⟨u1, u2, rfl, ru1, ru2⟩ := vals2 rv
          split at e
          · rename_i y hy
            cases e
            obtain ⟨z, ez, rz⟩ := (valM_ok key rk).2 _ hy
            have to := To.set (C := X.tx) sr hi (mo := .dk (delM kvs key)) ⟨_, upd_same, (delM_ok key rk).at_ (kt _) fun _ _ e => e⟩ (kt _)
            exact d_pop I ha ru1 ez (.inr ⟨_, rfl⟩) fun w' s4 I4 rw4 => ⟨z, _, I4, rw4, k ι _ _ to (to.rep sr rz)⟩
          · rename_i hy
            cases e
            have en : valV ws key = none := by
              have := (valM_ok key rk).1
              rw [hy] at this
              cases hv : valV ws key with
              | none => rfl
              | some _ => rw [hv] at this; cases this
            exact d_popD I ha ru1 en fun s4 I4 => ⟨w, H, I4, ru2, k ι _ _ (To.refl sr) rw'⟩
        · cases e
      · split at e
        · rename_i key ek
          obtain ⟨q, w, rfl, rq, rw'⟩ := repL2 rl
          have eq := key_ok ek rq
          subst eq
          obtain ⟨u1, u2, rfl, ru1, ru2⟩ := vals2 rv
          split at e
          · rename_i y hy
            cases e
            obtain ⟨z, ez, rz⟩ := (valM_ok key rk).2 _ hy
            exact d_get2 (by omega) I (DGet.k ha) ru1 ru2 fun w' s4 I4 rw4 => ⟨_, H, I4, rw4, by rw [ez]; exact k ι _ _ (To.refl sr) rz⟩
          · rename_i hy
            cases e
            have en : valV ws key = none := by
              have := (valM_ok key rk).1
              rw [hy] at this
              cases hv : valV ws key with
              | none => rfl
              | some _ => rw [hv] at this; cases this
            exact d_get2 (by omega) I (DGet.k ha) ru1 ru2 fun w' s4 I4 rw4 => ⟨_, H, I4, rw4, by rw [en]; exact k ι _ _ (To.refl sr) rw'⟩
        · cases e
      · rename_i qn
        split at e
        · rename_i ls hq
          obtain ⟨hz, e⟩ := bif_some e
          cases e
          obtain ⟨hz, hne⟩ := Bool.and_eq_true_iff.mp hz
          have hz := small_ok hz
          obtain ⟨y, rfl, ry⟩ := repL1 rl
          obtain ⟨b, ms, rfl, hj, hb, rm⟩ := sr.dk ry hq
          obtain ⟨u1, rfl, ru1⟩ := vals1 rv
          cases ru1
          have hab : a ≠ b := by
            rintro rfl
            obtain ⟨l1, q1⟩ := List.getElem?_eq_some_iff.mp hi
            obtain ⟨l2, q2⟩ := List.getElem?_eq_some_iff.mp hj
            have : r = qn := (List.getElem_inj sr.nd).mp (q1.trans q2.symm)
            subst this
            rw [Bool.not_eq_true'] at hne
            have : Nat.beq r r = true := Nat.beq_refl r
            rw [this] at hne; cases hne
          obtain ⟨z1, hd1, vs1, rel1, dd1⟩ := dk_of I.hok ha
          obtain ⟨z2, hd2, vs2, rel2, dd2⟩ := dk_of I.hok hb
          have l1 := Paired.length rk
          have l2 := Paired.length rm
          have l3 := rel1.length
          have l4 := rel2.length
          refine call_meetsIn PySem.F.slot_dict_update dd1.typeIs PySem.F.entry_dict_update (PySem.F.args_dict_update_2 _ _) (meets_dict_update (mixKind X.prog X.w) a b hab hd2) ⟨vs1, vs2, dd1, dd2, by omega, fun h2 dn1 _ sb => ?_⟩
          have ex2 : ∃ q, h2.get? a = some q := let ⟨q, _, _, hq, _⟩ := dn1; ⟨q, hq⟩
          have hml := mergeK_len ms ws
          refine ⟨.non, _, d_write (t' := s.toks) I (by rw [ha]; exact True.intro) sb ex2 (dk_new (by omega) hd1 (KV.merge rel2 rel1) dn1), rfl, k ι _ _ (To.set sr hi ⟨_, upd_same, (updM_ok rm rk).at_ (kt _) fun _ _ e => e⟩ (kt _)) .non⟩
        · cases e
      · cases e
    · cases e
  · cases e
/-- the receiver's type -/
theorem tyV_ok (sr : SR C ι h H) {x : T} {xv : V} {m : MI} (rep : Rep C.K H ι x xv) (e : mOk m h x = true) : tyV C.K m.ty xv H := by
  unfold mOk at e
  split at e
  · rw [rep.intE]
    split at e
    · rfl
    · cases e
  · split at e
    · rename_i hl
      obtain ⟨a, xs, rfl, hi, ha, rls⟩ := sr.lst rep hl
      refine .inl ⟨?_, xs, sqL_of ha⟩
      split at e <;> first | rfl | cases e
    · rename_i hl
      obtain ⟨a, ws, rfl, hi, ha, rk⟩ := sr.dk rep hl
      refine .inr (.inr (.inl ⟨?_, .inl ⟨ws, ha⟩⟩))
      split at e <;> first | rfl | cases e
    · cases e
  · cases e
end
section
variable {C : Tx} {g : Gt} {r : Rec} {l : Nat} {X : Cx}
theorem rd_mth {m : MI} {o : IE} {es : List IE} {ρ : L2.St} {H : Hp} {Q : VK} (h : rdE C (step g r) l (.mth m o es) ρ H Q) : tBM C.K m.ty (rMth C m) (rdE C r l o) (rdA C r l es) ρ H Q := by
  obtain ⟨ι, σ, h, sr, rs, t, h', e, k⟩ := h
  replace e : stepE g r l (.mth m o es) σ h = some (t, h') := e
  simp only [stepE] at e
  split at e
  · rename_i x h1 e1
    cases hm : mOk m h1 x with
    | false => rw [hm] at e; cases e
    | true =>
      rw [hm] at e
      simp only [cond_true] at e
      split at e
      · rename_i ts h2 e2
        exact ⟨ι, σ, h, sr, rs, x, h1, e1, fun ι1 H1 v1 to1 r1 => ⟨tyV_ok to1.sr r1 hm, ι1, σ, h1, to1.sr, to1.repS sr rs, ts, h2, e2, fun ι2 H2 vs to2 r2 =>
          ⟨ι2, h2, x, ts, t, h', to2.sr, to2.rep to1.sr r1, r2, e, fun ι3 H3 v3 to3 r3 => k _ _ _ ((to1.trans to2).trans to3) r3⟩⟩⟩
      · cases e
  · cases e
theorem rd_mth0 {m : MI} {o : IE} {ρ : L2.St} {H : Hp} {Q : VK} (h : rdE C (step g r) l (.mth0 m o) ρ H Q) : tBM0 C.K m.ty (rMth C m) (rdE C r l o) ρ H Q := by
  obtain ⟨ι, σ, h, sr, rs, t, h', e, k⟩ := h
  replace e : stepE g r l (.mth0 m o) σ h = some (t, h') := e
  simp only [stepE] at e
  split at e
  · rename_i x h1 e1
    cases hm : mOk m h1 x with
    | false => rw [hm] at e; cases e
    | true =>
      rw [hm] at e
      exact ⟨ι, σ, h, sr, rs, x, h1, e1, fun ι1 H1 v1 to1 r1 => ⟨tyV_ok to1.sr r1 hm, ι1, h1, x, [], t, h', to1.sr, r1, .nil, e, fun ι3 H3 v3 to3 r3 => k _ _ _ (to1.trans to3) r3⟩⟩
  · cases e
theorem rd_bits {o : IE} {ρ : L2.St} {H : Hp} {Q : VK} (h : rdE C (step g r) l (.mth0 .bitlen o) ρ H Q) : tBits (rdE C r l o) ρ H Q := by
  obtain ⟨ι, σ, h, sr, rs, t, h', e, k⟩ := h
  replace e : stepE g r l (.mth0 .bitlen o) σ h = some (t, h') := e
  simp only [stepE] at e
  split at e
  · rename_i x h1 e1
    cases hm : mOk .bitlen h1 x with
    | false => rw [hm] at e; cases e
    | true =>
      rw [hm] at e
      simp only [cond_true] at e
      unfold mOk at hm
      split at hm
      · cases e
        exact ⟨ι, σ, h, sr, rs, _, _, e1, fun ι1 H1 v1 to1 r1 => ⟨_, r1.intE, k _ _ _ to1 (.int _)⟩⟩
      · split at hm <;> cases hm
      · cases hm
  · cases e
theorem findM_ok : ∀ {ms : List (Str × Nat × MI)} {x : Str} {n : Nat} {m : MI}, findM ms x n = some m → (x, n, m) ∈ ms
  | [], _, _, _, e => by cases e
  | (y, k, a) :: r, x, n, m, e => by
    unfold findM at e
    cases d : decide (y = x) && Nat.beq k n with
    | true =>
      rw [d] at e
      cases e
      obtain ⟨d1, d2⟩ := Bool.and_eq_true_iff.mp d
      have e1 := of_decide_eq_true d1
      have e2 := Nat.eq_of_beq_eq_true d2
      subst e1 e2
      exact List.mem_cons_self
    | false => rw [d] at e; exact List.mem_cons_of_mem _ (findM_ok e)
theorem mths_ok : ∀ p ∈ mths, p.1 = p.2.2.nm ∧ (p.2.1 = 0 ↔ (p.2.2 = .pop ∨ p.2.2 = .bitlen)) := by
  intro p hp
  simp only [mths, List.mem_cons, List.not_mem_nil, or_false] at hp
  rcases hp with rfl | rfl | rfl | rfl | rfl | rfl | rfl | rfl | rfl | rfl <;> exact ⟨rfl, by simp⟩
theorem snd_mth (x : XOk g c l X) {o : Expr} {mn : Str} {ap p : Pos} {args : List Expr} {m : MI} {io : IE} {ia : List IE} (ho : PE X o (rdE X.tx r l io)) (ha : PA X args (rdA X.tx r l ia))
    (hn : args.all noStar = true) (hs : noSup o = true) (hl : args.length < 20) (hline : (ap.endLine == p.line) = true) (hm : findM mths mn args.length = some m) :
    PE X (.Call (.Attribute o mn ap) args [] p) (rdE X.tx (step g r) l (match args with | [] => .mth0 m io | _ => .mth m io ia)) := by
  have hin := findM_ok hm
  obtain ⟨e1, e2⟩ := mths_ok _ hin
  have e1 : mn = m.nm := e1
  have e2 : args.length = 0 ↔ (m = .pop ∨ m = .bitlen) := e2
  subst e1
  have hu := x.hu
  cases args with
  | nil =>
    rcases e2.mp rfl with rfl | rfl
    · exact peW (pe_bm0 (name := MI.nm .pop) PySem.F.plainAttrs_list PySem.F.slot_list_pop PySem.F.type_list_pop (mth_ok hu .pop (fun z => nomatch z)) ho (base_ok hs) hline) fun ρ H Q q => rd_mth0 q
    · exact peW (pe_bits ho (base_ok hs) hline) fun ρ H Q q => rd_bits q
  | cons e es =>
    have hst := star_cons (env := X.env) (es := es) (e := e) (by rw [List.all_cons, Bool.and_eq_true] at hn; exact hn.1)
    have hpl : (backTo p (starEach es X.env)).any (·.1) = false := star_plain (by rw [List.all_cons, Bool.and_eq_true] at hn; exact hn.2)
    have few := few_ok (env := X.env) (pos := p) hn hl
    have hne : m ≠ .pop ∧ m ≠ .bitlen := by
      constructor <;> (intro z; have := e2.mpr (by simp [z]); simp at this)
    refine peW ?_ fun ρ H Q q => rd_mth q
    cases m with
    | pop => exact absurd rfl hne.1
    | bitlen => exact absurd rfl hne.2
    | append => exact pe_bm PySem.F.plainAttrs_list PySem.F.slot_list_append PySem.F.type_list_append (mth_ok hu .append (fun z => nomatch z)) ho ha (base_ok hs) few hline hst hpl
    | extend => exact pe_bm PySem.F.plainAttrs_list PySem.F.slot_list_extend PySem.F.type_list_extend (mth_ok hu .extend (fun z => nomatch z)) ho ha (base_ok hs) few hline hst hpl
    | popA => exact pe_bm PySem.F.plainAttrs_list PySem.F.slot_list_pop PySem.F.type_list_pop (mth_ok hu .popA (fun z => nomatch z)) ho ha (base_ok hs) few hline hst hpl
    | popD => exact pe_bm PySem.F.plainAttrs_dict PySem.F.slot_dict_pop PySem.F.type_dict_pop (mth_ok hu .popD (fun z => nomatch z)) ho ha (base_ok hs) few hline hst hpl
    | insert => exact pe_bm PySem.F.plainAttrs_list PySem.F.slot_list_insert PySem.F.type_list_insert (mth_ok hu .insert (fun z => nomatch z)) ho ha (base_ok hs) few hline hst hpl
    | count => exact pe_bm PySem.F.plainAttrs_list PySem.F.slot_list_count PySem.F.type_list_count (mth_ok hu .count (fun z => nomatch z)) ho ha (base_ok hs) few hline hst hpl
    | get => exact pe_bm PySem.F.plainAttrs_dict PySem.F.slot_dict_get PySem.F.type_dict_get (mth_ok hu .get (fun z => nomatch z)) ho ha (base_ok hs) few hline hst hpl
    | update => exact pe_bm PySem.F.plainAttrs_dict PySem.F.slot_dict_update PySem.F.type_dict_update (mth_ok hu .update (fun z => nomatch z)) ho ha (base_ok hs) few hline hst hpl
end
end Gn

/-! The engine is right, part 5: targets, what is walked, comprehensions. -/
namespace Gn
open PySem PySem.Spec PyProof.Rows L2 RZ

section
variable {C : Tx} {g : Gt} {r : Rec} {l : Nat} {c : SC} {X : Cx}
/-! ### targets -/
theorem XOk.loc (x : XOk g c l X) {y : Str} (h : stOk c y = true) : L2.Loc X.env.scope y := by rw [x.sc]; exact stOk_loc h
theorem asg_cons {e : Expr} {es : List Expr} {env : Env} (h : noStar e = true) : assignEach (e :: es) env = (false, assign e env) :: assignEach es env := by
  cases e <;> first | rfl | cases h
theorem pg0 (x : XOk g c l X) {e : Expr} {tg : Tg} (h : cTg0 c e = some tg) : PG X e (tg0 X.K tg) ∧ noStar e = true := by
  unfold cTg0 at h
  split at h
  · split at h
    · rename_i i hi
      cases h
      obtain ⟨h1, h2⟩ := cTgN_ok hi
      exact ⟨pg_name x.nd (by rw [x.N]; exact h2) (x.loc h1) (x.st _ h1), rfl⟩
    · cases h
  · cases h
theorem pgs_of (x : XOk g c l X) {f : Expr → Option Tg} {t : Tg → TG} (hf : ∀ e tg, f e = some tg → PG X e (t tg) ∧ noStar e = true) : ∀ {es : List Expr} {gs : List Tg}, mapO f es = some gs →
    PGs X es (tgs t gs) ∧ (assignEach es X.env).length = gs.length ∧ (assignEach es X.env).findIdx? (·.1) = none
  | [], gs, e => by cases e; exact ⟨pgs_nil, rfl, rfl⟩
  | e :: es, gs, h => by
    unfold mapO at h
    split at h
    · rename_i b hb
      split at h
      · rename_i bs hbs
        cases h
        obtain ⟨h1, h2⟩ := hf _ _ hb
        obtain ⟨i1, i2, i3⟩ := pgs_of x hf hbs
        have ha := asg_cons (es := es) (env := X.env) h2
        refine ⟨pgs_cons h1 i1 (by rw [ha]; rfl), by rw [ha, List.length_cons, i2, List.length_cons], ?_⟩
        rw [ha, List.findIdx?_cons]
        simp only [Bool.false_eq_true, if_false, i3]
        rfl
      · cases h
    · cases h
theorem pg1 (x : XOk g c l X) {e : Expr} {tg : Tg} (h : cTg1 c e = some tg) : PG X e (tg1 X.K tg) ∧ noStar e = true := by
  unfold cTg1 at h
  split at h
  · split at h
    · rename_i gs hgs
      cases h
      obtain ⟨i1, i2, i3⟩ := pgs_of x (fun e tg => pg0 x) hgs
      exact ⟨pg_tup x.calm i1 i2 i3, rfl⟩
    · cases h
  · have h' := h
    unfold cTg0 at h'
    split at h'
    · split at h'
      · cases h'; exact pg0 x h
      · cases h'
    · cases h'
theorem pg2 (x : XOk g c l X) {e : Expr} {tg : Tg} (h : cTg c e = some tg) : PG X e (tg2 X.K tg) := by
  unfold cTg at h
  split at h
  · split at h
    · rename_i gs hgs
      cases h
      obtain ⟨i1, i2, i3⟩ := pgs_of x (fun e tg => pg1 x) hgs
      exact pg_tup x.calm i1 i2 i3
    · cases h
  · have h' := h
    unfold cTg0 at h'
    split at h'
    · split at h'
      · cases h'; exact (pg0 x h).1
      · cases h'
    · cases h'
/-! ### what is walked -/
theorem in_isi : sIsi ∈ bNames := .head _
theorem in_range : sRange ∈ bNames := .tail _ (.head _)
theorem in_enum : sEnum ∈ bNames := .tail _ (.tail _ (.head _))
theorem in_zip : sZip ∈ bNames := .tail _ (.tail _ (.tail _ (.head _)))
theorem find_mem {α : Type} : ∀ {l : List (Str × α)} {x : Str} {a : α}, find l x = some a → (x, a) ∈ l
  | [], _, _, e => by cases e
  | (y, b) :: r, x, a, e => by
    unfold find at e
    cases d : decide (y = x) with
    | true =>
      rw [d] at e
      cases e
      rw [of_decide_eq_true d]
      exact List.mem_cons_self
    | false => rw [d] at e; exact List.mem_cons_of_mem _ (find_mem e)
theorem in_bltn {x : Str} {b : BI} (h : find bltn x = some b) : x ∈ bNames :=
  .tail _ (.tail _ (.tail _ (.tail _ (List.mem_append_left _ (List.mem_map.mpr ⟨_, find_mem h, rfl⟩)))))
theorem in_tys {x : Str} {b : String} (h : find tys x = some b) : x ∈ bNames :=
  .tail _ (.tail _ (.tail _ (.tail _ (List.mem_append_right _ (List.mem_map.mpr ⟨_, find_mem h, rfl⟩)))))

abbrev rdI (C : Tx) (r : Rec) (l : Nat) (ii : II) : TI := fun ρ H R => ∃ ι σ h, SR C ι h H ∧ RepS C.K H ι σ ρ ∧ ∃ src h', srcI r l ii σ h = some (src, h') ∧ ∀ ι' H' J, To C ι H ι' h' H' → SrcAt C H' ι' src J → R J H'
theorem piW {tg e : Expr} {t t' : TI} (h : PI X tg e t) (w : ∀ ρ H Q, t' ρ H Q → t ρ H Q) : PI X tg e t' := ⟨fun pins s σ H Q I q => h.run pins s σ H Q I (w _ _ _ q)⟩
theorem pi_val {tg e : Expr} {ie : IE} (he : PE X e (rdE X.tx r l ie)) : PI X tg e (rdI X.tx r l (.val ie)) := by
  refine piW (PI.or (pi_list he) (PI.or (pi_tup he) (pi_str he))) fun ρ H R ⟨ι, σ, h, sr, rs, src, h', e', k⟩ => ?_
  unfold srcI at e'
  simp only at e'
  split at e'
  · rename_i ts h1 e1
    cases e'
    refine .inr (.inl ⟨ι, σ, h, sr, rs, _, _, e1, fun ι1 H1 v1 to1 r1 => ?_⟩)
    obtain ⟨a, xs, rfl, st, rl⟩ := r1.tupE
    exact ⟨a, rfl, ⟨xs, st⟩, k _ _ _ to1 (.tup st rl)⟩
  · rename_i z h1 e1
    cases e'
    exact .inr (.inr ⟨ι, σ, h, sr, rs, _, _, e1, fun ι1 H1 v1 to1 r1 => ⟨z, r1.strE, k _ _ _ to1 .str⟩⟩)
  · rename_i i h1 e1
    split at e'
    · rename_i ts hl
      cases e'
      refine .inl ⟨ι, σ, h, sr, rs, _, _, e1, fun ι1 H1 v1 to1 r1 => ?_⟩
      obtain ⟨a, xs, rfl, hi, ha, rl⟩ := to1.sr.lst r1 hl
      exact ⟨a, rfl, ⟨xs, sqL_of ha⟩, k _ _ _ to1 (.lst hi)⟩
    · cases e'
  · cases e'
theorem pa1 {a : Expr} {ia : IE} (ha : PE X a (rdE X.tx r l ia)) (hn : noStar a = true) : PA X [a] (tCons (rdE X.tx r l ia) tNil) := pa_cons ha pa_nil (star_cons hn)
theorem pa2 {a b : Expr} {ia ib : IE} (ha : PE X a (rdE X.tx r l ia)) (hb : PE X b (rdE X.tx r l ib)) (hn : noStar a = true) (hn' : noStar b = true) : PA X [a, b] (tCons (rdE X.tx r l ia) (tCons (rdE X.tx r l ib) tNil)) :=
  pa_cons ha (pa1 hb hn') (star_cons hn)
theorem pi_rng1 (x : XOk g c l X) {tg a : Expr} {ia : IE} {p pos : Pos} (hg : isGlob c sRange = true) (ha : PE X a (rdE X.tx r l ia)) (hn : noStar a = true) : PI X tg (.Call (.Name sRange p) [a] [] pos) (rdI X.tx r l (.rng none ia)) := by
  refine piW (pi_range1 (x.gl_ hg) (x.bmg _ in_range) (pa1 ha hn) (by rw [star_cons hn]; rfl)) fun ρ H R ⟨ι, σ, h, sr, rs, src, h', e', k⟩ => ?_
  unfold srcI at e'
  simp only at e'
  split at e'
  · rename_i j h1 e1
    obtain ⟨hb, e'⟩ := bif_some e'
    cases e'
    have hb := absLt_ok hb
    exact ⟨ι, σ, h, sr, rs, _, _, e1, fun ι1 H1 v1 to1 r1 => ⟨j, by rw [r1.intE], by omega, by omega, k _ _ _ to1 .rng⟩⟩
  · cases e'
theorem pi_rng2 (x : XOk g c l X) {tg a b : Expr} {ia ib : IE} {p pos : Pos} (hg : isGlob c sRange = true) (ha : PE X a (rdE X.tx r l ia)) (hb : PE X b (rdE X.tx r l ib)) (hn : noStar a = true) (hn' : noStar b = true) :
    PI X tg (.Call (.Name sRange p) [a, b] [] pos) (rdI X.tx r l (.rng (some ia) ib)) := by
  refine piW (pi_range2 (x.gl_ hg) (x.bmg _ in_range) (pa2 ha hb hn hn') (by rw [star_cons hn, star_cons hn']; rfl) (by rw [star_cons hn']; rfl)) fun ρ H R ⟨ι, σ, h, sr, rs, src, h', e', k⟩ => ?_
  unfold srcI at e'
  simp only at e'
  split at e'
  · rename_i i h1 e1
    split at e'
    · rename_i j h2 e2
      obtain ⟨hb, e'⟩ := bif_some e'
      cases e'
      obtain ⟨hb1, hb2⟩ := Bool.and_eq_true_iff.mp hb
      have hb1 := absLt_ok hb1
      have hb2 := absLt_ok hb2
      exact ⟨ι, σ, h, sr, rs, _, _, e1, fun ι1 H1 v1 to1 r1 => ⟨ι1, σ, h1, to1.sr, to1.repS sr rs, _, _, e2, fun ι2 H2 v2 to2 r2 => ⟨i, j, by rw [r1.intE, r2.intE], by omega, k _ _ _ (to1.trans to2) .rng⟩⟩⟩
    · cases e'
  · cases e'
theorem pi_zip2 (x : XOk g c l X) {a b : Expr} {ia ib : IE} {p pos tpos : Pos} {elts : List Expr} {kk : Nat} (hg : isGlob c sZip = true) (ha : PE X a (rdE X.tx r l ia)) (hb : PE X b (rdE X.tx r l ib)) (hn : noStar a = true) (hn' : noStar b = true) :
    PI X (.Tuple elts kk tpos) (.Call (.Name sZip p) [a, b] [] pos) (rdI X.tx r l (.zip ia ib)) := by
  refine piW (pi_zipA (x.gl_ hg) (x.bmg _ in_zip) (pa2 ha hb hn hn') (star_cons hn) (star_plain (by simp [hn']))) fun ρ H R ⟨ι, σ, h, sr, rs, src, h', e', k⟩ => ?_
  unfold srcI at e'
  simp only at e'
  split at e'
  · rename_i u h1 e1
    split at e'
    · rename_i w h2 e2
      split at e'
      · rename_i as bs
        cases e'
        refine ⟨ι, σ, h, sr, rs, _, _, e1, fun ι1 H1 v1 to1 r1 => ⟨ι1, σ, h1, to1.sr, to1.repS sr rs, _, _, e2, fun ι2 H2 v2 to2 r2 => ?_⟩⟩
        obtain ⟨a, xs, rfl, sx, lx⟩ := (to2.rep to1.sr r1).tupE
        obtain ⟨b, ys, rfl, sy, ly⟩ := r2.tupE
        exact ⟨a, b, xs, ys, rfl, .inr ⟨sx, sy, k _ _ _ (to1.trans to2) (.zipT sx lx sy ly)⟩⟩
      · rename_i i j
        split at e'
        · rename_i as bs hi hj
          cases e'
          refine ⟨ι, σ, h, sr, rs, _, _, e1, fun ι1 H1 v1 to1 r1 => ⟨ι1, σ, h1, to1.sr, to1.repS sr rs, _, _, e2, fun ι2 H2 v2 to2 r2 => ?_⟩⟩
          obtain ⟨a, xs, rfl, hi', ha, lx⟩ := to2.sr.lst (to2.rep to1.sr r1) hi
          obtain ⟨b, ys, rfl, hj', hb, ly⟩ := to2.sr.lst r2 hj
          exact ⟨a, b, xs, ys, rfl, .inl ⟨sqL_of ha, sqL_of hb, k _ _ _ (to1.trans to2) (.zipL hi' hj')⟩⟩
        · cases e'
      · cases e'
    · cases e'
  · cases e'
theorem pi_en (x : XOk g c l X) {a : Expr} {ia : IE} {p pos tpos : Pos} {elts : List Expr} {kk : Nat} (hg : isGlob c sEnum = true) (ha : PE X a (rdE X.tx r l ia)) (hn : noStar a = true) :
    PI X (.Tuple elts kk tpos) (.Call (.Name sEnum p) [a] [] pos) (rdI X.tx r l (.enum ia)) := by
  have m : X.mg sEnum = none := x.bmg _ in_enum
  refine piW (PI.or (pi_enum (x.gl_ hg) m (pa1 ha hn) (by rw [star_cons hn]; rfl)) (pi_enumT (x.gl_ hg) m (pa1 ha hn) (by rw [star_cons hn]; rfl))) fun ρ H R ⟨ι, σ, h, sr, rs, src, h', e', k⟩ => ?_
  unfold srcI at e'
  simp only at e'
  split at e'
  · rename_i ts h1 e1
    cases e'
    refine .inr ⟨ι, σ, h, sr, rs, _, _, e1, fun ι1 H1 v1 to1 r1 => ?_⟩
    obtain ⟨a, xs, rfl, sx, lx⟩ := r1.tupE
    exact ⟨a, xs, rfl, sx, k _ _ _ to1 (.enumT sx lx)⟩
  · rename_i i h1 e1
    split at e'
    · rename_i ts hi
      cases e'
      refine .inl ⟨ι, σ, h, sr, rs, _, _, e1, fun ι1 H1 v1 to1 r1 => ?_⟩
      obtain ⟨a, xs, rfl, hi', ha, lx⟩ := to1.sr.lst r1 hi
      exact ⟨a, xs, rfl, sqL_of ha, k _ _ _ to1 (.enumL hi')⟩
    · cases e'
  · cases e'
/-! ### comprehensions -/
abbrev rdTs (C : Tx) (r : Rec) (l : Nat) (cs : List IE) : TT := fun ρ H Q => ∃ ι σ h, SR C ι h H ∧ RepS C.K H ι σ ρ ∧ ∃ b h', ifsT r l cs σ h = some (b, h') ∧ ∀ ι' H', To C ι H ι' h' H' → Q b H'
theorem pts0 : PTs X [] (rdTs X.tx r l []) := ⟨fun pins s σ H Q I q => pts_nil.run pins s σ H Q I (by
  obtain ⟨ι, σ', h, sr, rs, b, h', e, k⟩ := q
  replace e : some (true, h) = some (b, h') := e
  cases e
  exact k _ _ (To.refl sr))⟩
theorem pts1 {e : Expr} {ie : IE} (he : PT X e (rdT X.tx r l ie)) : PTs X [e] (rdTs X.tx r l [ie]) := ⟨fun pins s σ H Q I q => (pts_one he).run pins s σ H Q I (by
  obtain ⟨ι, σ', h, sr, rs, b, h', e, k⟩ := q
  simp only [ifsT] at e
  split at e
  · rename_i h1 e1
    cases e
    exact ⟨ι, σ', h, sr, rs, _, _, e1, k⟩
  · rename_i h1 e1
    cases e
    exact ⟨ι, σ', h, sr, rs, _, _, e1, k⟩
  · cases e)⟩
theorem subsetN_ok {xs ys : List Nat} (h : subsetN xs ys = true) : ∀ j ∈ xs, j ∈ ys := fun j hj => by
  have := List.all_eq_true.mp h j hj
  obtain ⟨y, hy, e⟩ := List.any_eq_true.mp this
  rw [Nat.eq_of_beq_eq_true e]; exact hy
theorem out_wipe {ρ ρ' : L2.St} {vs ws : List Nat} (o : Out ws (L2.wipe ρ vs) ρ') (hs : ∀ j ∈ ws, j ∈ vs) : L2.wipe ρ' vs = L2.wipe ρ vs := by
  rw [o.wipe hs]
  exact Out.wipe (ws := vs) ⟨wipe_length _ _, fun j hj => wipe_out hj⟩ fun j hj => hj
theorem bif_some' {α : Type} {c : Bool} {a : Option α} {b : α} (e : (bif c then a else none) = some b) : c = true ∧ a = some b := by
  cases c with
  | true => exact ⟨rfl, e⟩
  | false => cases e
/-- the turns of one walk that appends to the list at D -/
theorem lc_turns {C : Tx} {ι1 : List Addr} {h1 : Hi} {H1 : Hp} {D : Addr} {acc : Nat} {src : Src} {J : It} {tg : Tg} {ifs : List IE} {elt : IE} {σ : Sg} {ρ : L2.St} {own : List Nat} {m0 : Nat} {hE : Hi} {Qd : Hp → Prop}
    (sr1 : SR C ι1 h1 H1) (rs : RepS C.K H1 ι1 (wipeS σ own) (L2.wipe ρ own)) (sa : SrcAt C H1 ι1 src J) (hacc : ι1[acc]? = some D) (hsl : ∀ j ∈ tg.slots, j ∈ own)
    (e : lcT r l src tg ifs elt (wipeS σ own) acc m0 0 h1 = some hE) (k : ∀ ι' H', To C ι1 H1 ι' hE H' → Qd H') :
    ∃ W : Nat → Nat → Hp → Prop, (∃ m, W 0 m H1) ∧ ∀ i m H, W i m H →
      (J.stop i H ∧ Qd H) ∨ (J.go i H ∧ ∃ Nx : Hp → Prop, (∀ H', Nx H' → ∃ m', m' < m ∧ W (i + 1) m' H') ∧ ∀ x H', J.yld i H x H' → tg2 C.K tg x (L2.wipe ρ own) H' fun σ2 H2 => L2.wipe σ2 own = L2.wipe ρ own ∧ rdTs C r l ifs σ2 H2 fun b H3 =>
        if b = true then rdE C r l elt σ2 H3 fun y H4 => ∃ ac, H4 D = some (.lst ac) ∧ ac.length < sizeLine ∧ Nx (upd H4 D (.lst (ac ++ [y]))) else Nx H3) := by
  refine ⟨fun i m H => ∃ ι2 h2, To C ι1 H1 ι2 h2 H ∧ lcT r l src tg ifs elt (wipeS σ own) acc m i h2 = some hE, ⟨m0, ι1, h1, To.refl sr1, e⟩, ?_⟩
  rintro i m H ⟨ι2, h2, to2, e⟩
  have sa2 := sa.to sr1 to2
  have rs2 := to2.repS sr1 rs
  cases m with
  | zero => cases e
  | succ m =>
    simp only [lcT] at e
    obtain ⟨nx1, nx2⟩ := next_ok (i := i) to2.sr sa2
    split at e
    · cases e
    · rename_i en
      cases e
      exact .inl ⟨nx1 en, k _ _ to2⟩
    · rename_i t en
      obtain ⟨go, yl⟩ := nx2 t en
      split at e
      · cases e
      · rename_i σ1 eb
        refine .inr ⟨go, fun H' => ∃ ι2 h2, To C ι1 H1 ι2 h2 H' ∧ lcT r l src tg ifs elt (wipeS σ own) acc m (i + 1) h2 = some hE, fun H' q => ⟨m, Nat.lt_succ_self _, q⟩, fun x H' y => ?_⟩
        obtain ⟨to3, rx⟩ := yl x H' y
        have rs3 := to3.repS to2.sr rs2
        refine bindT_ok C.K tg H' ι2 t x _ σ1 _ _ eb rx rs3 fun ρ' rs4 o => ⟨out_wipe o hsl, ?_⟩
        split at e
        · rename_i h3 ei
          refine ⟨ι2, σ1, h2, to3.sr, rs4, false, h3, ei, fun ι4 H4 to4 => ?_⟩
          dsimp only
          rw [if_neg (by decide)]
          exact ⟨ι4, h3, (to2.trans to3).trans to4, e⟩
        · rename_i h3 ei
          refine ⟨ι2, σ1, h2, to3.sr, rs4, true, h3, ei, fun ι4 H4 to4 => ?_⟩
          dsimp only
          rw [if_pos rfl]
          split at e
          · rename_i v h4 ee
            refine ⟨ι4, σ1, h3, to4.sr, to4.repS to3.sr rs4, v, h4, ee, fun ι5 H5 y to5 ry => ?_⟩
            have to15 := ((to2.trans to3).trans to4).trans to5
            split at e
            · rename_i ts ha
              obtain ⟨hz, e⟩ := bif_some' e
              have hi := to15.ids _ _ hacc
              obtain ⟨vs, q, rl⟩ := to5.sr.ok acc D _ hi ha
              have hz := small_ok hz
              have hl := rl.length
              have nf : ∀ ob u, H5 D ≠ some (.frz ob u) := fun ob u z => by rw [q] at z; cases z
              have kt := fun (o : HO) => to5.sr.keepT_set (o := o) (List.mem_of_getElem? hi) nf
              exact ⟨vs, q, by omega, ι5, _, to15.trans (To.set (mo := .lst (ts ++ [v])) to5.sr hi ⟨_, upd_same, (rl.append (.cons ry .nil)).at_ (kt _) fun _ _ e => e⟩ (kt _)), e⟩
            · cases e
          · cases e
        · cases e
end
end Gn

set_option maxHeartbeats 2000000
/-! The engine is right, part 6: comprehensions of lists, of dicts. -/
namespace Gn
open PySem PySem.Spec PyProof.Rows L2 RZ

section
variable {C : Tx} {g : Gt} {r : Rec} {l : Nat}
theorem ids_acc {ι1 ι' : List Addr} {H1 H' : Hp} {h h' : Hi} {D : Addr} (s : SR C ι1 h H1) (to : To C (ι1 ++ [D]) H' ι' h' H1) {n : Nat} (hn : ι1.length = n) : ι'[n]? = some D := by
  subst hn
  exact to.ids _ _ (by simp)
/-- a list comprehension -/
theorem lc_rd {tg : Tg} {it : II} {ifs : List IE} {elt : IE} {own : List Nat} {ρ : L2.St} {H : Hp} {Q : VK} {ι : List Addr} {σ : Sg} {h h1 h2 : Hi} {src : Src} (sr : SR C ι h H) (rs : RepS C.K H ι σ ρ)
    (e1 : srcI r l it σ h = some (src, h1)) (e2 : lcT r l src tg ifs elt (wipeS σ own) h1.length loopMax 0 (h1 ++ [.lst []]) = some h2) (hsl : ∀ j ∈ tg.slots, j ∈ own) (k : PV C ι H (.ref h1.length) h2 Q) :
    tLc (rdI C r l it) (tg2 C.K tg) (rdTs C r l ifs) (rdE C r l elt) own ρ H Q := by
  refine ⟨ι, σ, h, sr, rs, src, h1, e1, fun ι1 H1 J to1 sa D hD => ?_⟩
  have toN := To.lst to1.sr hD (.nil : RepL C.K H1 ι1 [] [])
  have hacc : (ι1 ++ [D])[h1.length]? = some D := by rw [← to1.sr.len]; simp
  exact lc_turns toN.sr (((toN.repS to1.sr (to1.repS sr rs))).wipe own) (sa.to to1.sr toN) hacc hsl e2 fun ι' H' to => k ι' H' (.ref D) ((to1.trans toN).trans to) (.ref (to.ids _ _ hacc))
/-- .. of two walks -/
theorem lc2_turns {ι1 : List Addr} {h1 : Hi} {H1 : Hp} {D : Addr} {acc : Nat} {src : Src} {J : It} {tg tg1 : Tg} {it1 : II} {ifs ifs1 : List IE} {elt : IE} {σ : Sg} {ρ : L2.St} {own : List Nat} {lim m0 : Nat} {hE : Hi} {Qd : Hp → Prop}
    (sr1 : SR C ι1 h1 H1) (rs : RepS C.K H1 ι1 (wipeS σ own) (L2.wipe ρ own)) (sa : SrcAt C H1 ι1 src J) (hacc : ι1[acc]? = some D) (hsl : ∀ j ∈ tg.slots, j ∈ own)
    (e : lc2T r l src tg ifs tg1 it1 ifs1 elt (wipeS σ own) acc lim m0 0 h1 = some hE) (k : ∀ ι' H', To C ι1 H1 ι' hE H' → Qd H') :
    ∃ W : Nat → Nat → Hp → Prop, (∃ m, W 0 m H1) ∧ ∀ i m H, W i m H →
      (J.stop i H ∧ Qd H) ∨ (J.go i H ∧ ∃ Nx : Hp → Prop, (∀ H', Nx H' → ∃ m', m' < m ∧ W (i + 1) m' H') ∧ ∀ x H', J.yld i H x H' → tg2 C.K tg x (L2.wipe ρ own) H' fun σ2 H2 => L2.wipe σ2 own = L2.wipe ρ own ∧ rdTs C r l ifs σ2 H2 fun b H3 =>
        if b = true then rdI C r l it1 σ2 H3 fun J1 H4 => ∃ W1 : Nat → Nat → Hp → Prop, (∃ m, W1 0 m H4) ∧ ∀ j k H, W1 j k H →
          (J1.stop j H ∧ Nx H) ∨ (J1.go j H ∧ ∃ Nx1 : Hp → Prop, (∀ H', Nx1 H' → ∃ k', k' < k ∧ W1 (j + 1) k' H') ∧ ∀ x H', J1.yld j H x H' → tg2 C.K tg1 x (L2.wipe σ2 tg1.slots) H' fun σ3 H5 => L2.wipe σ3 tg1.slots = L2.wipe σ2 tg1.slots ∧ rdTs C r l ifs1 σ3 H5 fun b H6 =>
            if b = true then rdE C r l elt σ3 H6 fun y H7 => ∃ ac, H7 D = some (.lst ac) ∧ ac.length < sizeLine ∧ Nx1 (upd H7 D (.lst (ac ++ [y]))) else Nx1 H6)
        else Nx H3) := by
  refine ⟨fun i m H => ∃ ι2 h2, To C ι1 H1 ι2 h2 H ∧ lc2T r l src tg ifs tg1 it1 ifs1 elt (wipeS σ own) acc lim m i h2 = some hE, ⟨m0, ι1, h1, To.refl sr1, e⟩, ?_⟩
  rintro i m H ⟨ι2, h2, to2, e⟩
  have sa2 := sa.to sr1 to2
  have rs2 := to2.repS sr1 rs
  cases m with
  | zero => cases e
  | succ m =>
    simp only [lc2T] at e
    obtain ⟨nx1, nx2⟩ := next_ok (i := i) to2.sr sa2
    split at e
    · cases e
    · rename_i en
      cases e
      exact .inl ⟨nx1 en, k _ _ to2⟩
    · rename_i t en
      obtain ⟨go, yl⟩ := nx2 t en
      split at e
      · cases e
      · rename_i σ1 eb
        refine .inr ⟨go, fun H' => ∃ ι2 h2, To C ι1 H1 ι2 h2 H' ∧ lc2T r l src tg ifs tg1 it1 ifs1 elt (wipeS σ own) acc lim m (i + 1) h2 = some hE, fun H' q => ⟨m, Nat.lt_succ_self _, q⟩, fun x H' y => ?_⟩
        obtain ⟨to3, rx⟩ := yl x H' y
        have rs3 := to3.repS to2.sr rs2
        refine bindT_ok C.K tg H' ι2 t x _ σ1 _ _ eb rx rs3 fun ρ' rs4 o => ⟨out_wipe o hsl, ?_⟩
        split at e
        · rename_i h3 ei
          refine ⟨ι2, σ1, h2, to3.sr, rs4, false, h3, ei, fun ι4 H4 to4 => ?_⟩
          dsimp only
          rw [if_neg (by decide)]
          exact ⟨ι4, h3, (to2.trans to3).trans to4, e⟩
        · rename_i h3 ei
          refine ⟨ι2, σ1, h2, to3.sr, rs4, true, h3, ei, fun ι4 H4 to4 => ?_⟩
          dsimp only
          rw [if_pos rfl]
          split at e
          · rename_i src1 h4 es
            split at e
            · rename_i h5 el
              refine ⟨ι4, σ1, h3, to4.sr, to4.repS to3.sr rs4, src1, h4, es, fun ι5 H5 J1 to5 sa1 => ?_⟩
              have to15 := ((to2.trans to3).trans to4).trans to5
              refine lc_turns to5.sr ((to5.repS to4.sr (to4.repS to3.sr rs4)).wipe _) sa1 (to15.ids _ _ hacc) (fun _ h => h) el fun ι6 H6 to6 => ⟨ι6, h5, to15.trans to6, e⟩
            · cases e
          · cases e
        · cases e
theorem lc2_rd {tg tg1 : Tg} {it it1 : II} {ifs ifs1 : List IE} {elt : IE} {own : List Nat} {ρ : L2.St} {H : Hp} {Q : VK} {ι : List Addr} {σ : Sg} {h h1 h2 : Hi} {src : Src} (sr : SR C ι h H) (rs : RepS C.K H ι σ ρ)
    (e1 : srcI r l it σ h = some (src, h1)) (e2 : lc2T r l src tg ifs tg1 it1 ifs1 elt (wipeS σ own) h1.length loopMax loopMax 0 (h1 ++ [.lst []]) = some h2) (hsl : ∀ j ∈ tg.slots, j ∈ own) (k : PV C ι H (.ref h1.length) h2 Q) :
    tLc2 (rdI C r l it) (tg2 C.K tg) (rdTs C r l ifs) (rdI C r l it1) (tg2 C.K tg1) (rdTs C r l ifs1) (rdE C r l elt) own tg1.slots ρ H Q := by
  refine ⟨ι, σ, h, sr, rs, src, h1, e1, fun ι1 H1 J to1 sa D hD => ?_⟩
  have toN := To.lst to1.sr hD (.nil : RepL C.K H1 ι1 [] [])
  have hacc : (ι1 ++ [D])[h1.length]? = some D := by rw [← to1.sr.len]; simp
  exact lc2_turns toN.sr (((toN.repS to1.sr (to1.repS sr rs))).wipe own) (sa.to to1.sr toN) hacc hsl e2 fun ι' H' to => k ι' H' (.ref D) ((to1.trans toN).trans to) (.ref (to.ids _ _ hacc))
/-! ### dicts -/
abbrev rPut (C : Tx) : Addr → V → V → Hp → (Hp → Prop) → Prop := fun D i v H Q => ∃ ι h d y z h', SR C ι h H ∧ ι[d]? = some D ∧ Rep C.K H ι y i ∧ Rep C.K H ι z v ∧ setT h (.ref d) y z = some h' ∧ (∀ ts, h[d]? ≠ some (.lst ts)) ∧ ∀ H', To C ι H ι h' H' → Q H'
theorem dn_put {X : Cx} (hu : X.A.units + 65 < cLine) {pins : List (Addr × Obj)} {s : Shared} {σ : L2.St} {H : Hp} {E : Value → Shared → Prop} {ι : List Addr} {h : Hi} {r : Nat} {a : Addr} {y z : T} {v iv : V} {u ivu : Value} {key : NestedKey} {kvs : List (NestedKey × T × T)} {xs : List (NestedKey × Addr × Value)} {Q : Hp → Prop}
    (I : Inv X pins σ H s) (sr : SR X.tx ι h H) (hi : ι[r]? = some a) (mu : Mut (H a)) (hf : ∀ ob u, H a ≠ some (.frz ob u)) (hsys : (a == sysModules) = false) (dd : s.heap.DictOfH (nestedKind X.prog X.w) a xs) (rk : RepN X.K H ι kvs xs) (ek : y.keyN = some key) (ry : Rep X.K H ι y iv) (ri : RelV iv ivu) (rz : Rep X.K H ι z v) (rv : RelV v u)
    (hz : kvs.length + 1 ≤ sizeLine) (k : ∀ H', To X.tx ι H ι (h.set r (.dn (putNM kvs key y z))) H' → Q H') :
    wpAny (model X.prog X.w) X.A (dictSet a ivu u) (fun _ s' => ∃ H', Inv X pins σ H' s' ∧ Q H') E s := by
  obtain ⟨b, e1, eu, kx⟩ := keyN_is I ek ry ri
  subst e1 eu
  have hroom : (nestedKind X.prog X.w).room X.A := by show X.A.units + 8 < cLine; omega
  have hlen := Paired.length rk
  refine wpAny_dictSet_heap (hsz := by omega) hroom kx dd fun h' dd' hs => ?_
  have hae : ∃ q, h'.get? a = some q := let ⟨q, _, _, hq, _⟩ := dd'; ⟨q, hq⟩
  have I' := d_write (t' := s.toks + (nestedKind X.prog X.w).draws key) (ob := DNo X.tx a (storedH xs key b u)) I mu hs hae (dno_new dd')
  have nd' : ((storedH xs key b u).map (·.1)).Nodup := let ⟨_, _, _, _, _, _, _, _, q⟩ := dd'; q
  have nd : (xs.map (·.1)).Nodup := let ⟨_, _, _, _, _, _, _, _, q⟩ := dd; q
  refine ⟨_, I', k _ (To.set sr hi ⟨_, upd_same, hsys, nd', ?_⟩ (sr.keepT_set (List.mem_of_getElem? hi) hf))⟩
  exact (storedN rk ek ry rv rz nd).at_ (sr.keepT_set (List.mem_of_getElem? hi) hf) fun _ _ e => e
theorem put_ok {X : Cx} (hu : X.A.units + 65 < cLine) {pins : List (Addr × Obj)} {s : Shared} {σ : L2.St} {H : Hp} {E : Value → Shared → Prop} {D : Addr} {i v : V} {iv u : Value} {Q : Hp → Prop} (I : Inv X pins σ H s) (ri : RelV i iv) (rv : RelV v u) (hq : rPut X.tx D i v H Q) :
    wpAny (model X.prog X.w) X.A (dictSet D iv u) (fun _ s' => ∃ H', Inv X pins σ H' s' ∧ Q H') E s := by
  obtain ⟨ι, h, d, y, z, h', sr, hd, ry, rz, e, nl, k⟩ := hq
  have rx : Rep X.K H ι (.ref d) (.ref D) := .ref hd
  unfold setT at e
  simp only at e
  split at e
  · rename_i hl
    exact absurd hl (nl _)
  · rename_i kvs hl
    split at e
    · rename_i key ek
      obtain ⟨hz, e⟩ := bif_some e
      cases e
      obtain ⟨a, ws, ea, hi, ha, rk⟩ := sr.dk rx hl
      cases ea
      have ekv := key_ok ek ry
      subst ekv
      have hz := small_ok hz
      have hlen := Paired.length rk
      have nf : ∀ ob u, H D ≠ some (.frz ob u) := fun ob u q => by rw [ha] at q; cases q
      refine d_dictSet I ha (by omega) ri rv fun s' I' => ⟨_, I', k _ (To.set sr hi ⟨_, upd_same, ?_⟩ (sr.keepT_set (List.mem_of_getElem? hi) nf))⟩
      exact (putM_ok key rz rk).at_ (sr.keepT_set (List.mem_of_getElem? hi) nf) fun _ _ e => e
    · split at e
      · rename_i key ek
        cases e
        obtain ⟨a, ws, ea, hi, ha, rk⟩ := sr.dk rx hl
        cases ea
        cases rk
        obtain ⟨hsys, dd⟩ := dk_nil_dn I ha
        exact dn_put hu I sr hi (by rw [ha]; trivial) (fun ob u q => by rw [ha] at q; cases q) hsys dd .nil ek ry ri rz rv (by rw [sizeLine_eq]; show 0 + 1 ≤ _; omega) k
      · cases e
  · rename_i kvs hl
    split at e
    · rename_i key ek
      obtain ⟨hz, e⟩ := bif_some e
      cases e
      obtain ⟨a, xs, ea, hi, ha, hsys, nd, rk⟩ := sr.dn rx hl
      cases ea
      exact dn_put hu I sr hi (by rw [ha]; trivial) (fun ob u q => by rw [ha] at q; cases q) hsys (dn_of I ha nd rk) rk ek ry ri rz rv (small_ok hz) k
    · cases e
  · cases e
end
end Gn

/-! The engine is right, part 7: a dict comprehension whose keys are ints, texts or tuples. -/
namespace Gn
open PySem PySem.Spec PyProof.Rows L2 RZ

abbrev Blks (X : Cx) (scope : Scope) (P : Cx → Prop) : Prop := ∀ (s : Shared) (H : Hp) (C : Addr) (cl : List (Str × Addr)) (fp : List Addr), P (X.blk s H scope (compEnvC scope cl C X.env) fp)
section
variable {X : Cx}
/-- the reading: put tells the store -/
def tDcG (wi : TI) (g : TG) (tt : TT) (tk tv : TE) (put : Addr → V → V → Hp → (Hp → Prop) → Prop) (vs : List Nat) : TE := fun σ H Q => wi σ H fun J H1 => ∀ D, H1 D = none → ∃ W : Nat → Nat → Hp → Prop, (∃ m, W 0 m (upd H1 D (.dK []))) ∧ ∀ i m H, W i m H →
  (J.stop i H ∧ Q (.ref D) H) ∨ (J.go i H ∧ ∃ Nx : Hp → Prop, (∀ H', Nx H' → ∃ m', m' < m ∧ W (i + 1) m' H') ∧ ∀ x H', J.yld i H x H' → g x (L2.wipe σ vs) H' fun σ2 H2 => L2.wipe σ2 vs = L2.wipe σ vs ∧ tt σ2 H2 fun b H3 =>
    if b = true then tk σ2 H3 fun y H4 => tv σ2 H4 fun z H5 => put D y z H5 Nx else Nx H3)
def PutR (X : Cx) (put : Addr → V → V → Hp → (Hp → Prop) → Prop) : Prop := ∀ (pins : List (Addr × Obj)) (s : Shared) (σ : L2.St) (H : Hp) (E : Value → Shared → Prop) (D : Addr) (i v : V) (iv u : Value) (Q : Hp → Prop), Inv X pins σ H s → RelV i iv → RelV v u → put D i v H Q →
  wpAny (model X.prog X.w) X.A (dictSet D iv u) (fun _ s' => ∃ H', Inv X pins σ H' s' ∧ Q H') E s
theorem dcG_core {pins : List (Addr × Obj)} {s : Shared} {σ : L2.St} {H : Hp} {Q : VK} {kx vx tg iter : Expr} {ifs : List Expr} {scope : Scope} {own : List (Str × Nat)} {pos pos' : Pos} {wi : TI} {g : TG} {tt : TT} {tk tv : TE} {put : Addr → V → V → Hp → (Hp → Prop) → Prop} {use : Option (Value → Sem Unit)} {Qf : Value → Shared → Prop}
    (hc : X.calm = true) (hN : X.N.Nodup) (I : Inv X pins σ H s) (hi : PI X tg iter wi) (ok : BlkOk X.N X.env.scope scope own)
    (hg : Blks X scope fun Y => PG Y tg g) (ht : Blks X scope fun Y => PTs Y ifs tt) (hk : Blks X scope fun Y => PE Y kx tk) (he : Blks X scope fun Y => PE Y vx tv) (hp : Blks X scope fun Y => PutR Y put)
    (hs : ∀ x, foldedSetIterable iter X.env x = pure x) (h : tDcG wi g tt tk tv put (own.map (·.2)) σ H Q)
    (hRR : ∀ D C s' m H', Inv X pins σ H' s' → Q (.ref D) H' → s'.heap.Ns C m → FpOk X pins H' C → compPost (model X.prog X.w) X.A X.xe use Qf (.ref D) C (.ok .next) s') :
    wpAny (model X.prog X.w) X.A (comprehension (.DictComp kx vx [⟨tg, iter, ifs, 0⟩] scope pos) scope X.env pos' newDict false (eval iter X.env) use) Qf X.xe s := by
  have frees : ∀ y ∈ scope.names, y.2 = .free → ∃ c, X.env.cells.lookup y.1 = some c := fun y hy e => (ok.free y hy e).elim (fun k => I.ok.has _ (.inl k)) fun k => I.ok.has _ (.inr k)
  refine wpAny_comprehension_free (use := use) rfl hs (closure_ok frees) ok.kind (fun y hy e => by rw [ok.uniq y hy, e])
    (thn (hi.run pins s σ H _ I h) fun xv s1 hx => thn hx fun itv s2 h2 => ?_)
  obtain ⟨it, fp, tn, J, Ha, rfl, Ia, tu, sta, fpa, qa⟩ := h2
  refine wpAny_newObj_type (newEnv_comp ?_)
  generalize eD : s2.heap.objs.size = D
  obtain ⟨W, ⟨m0, w0⟩, turn⟩ := qa D (Ia.hok.fresh (Nat.le_of_eq eD))
  generalize es3 : ({ s2 with heap := s2.heap.push { cls := .type "dict", data := .dict #[] } } : Shared) = s3
  have Ib : Inv X pins σ (upd Ha D (.dK [])) s3 := by
    rw [← es3]
    refine Ia.laid (t' := s2.toks) (fun b o e => Heap.get?_push_of_some _ e) (Nat.le_of_eq eD) ?_
    rw [← eD]
    exact dk_empty s2.heap Ia.big
  have eh3 : s3.heap = s2.heap.push { cls := .type "dict", data := .dict #[] } := by rw [← es3]
  have fpb : ∀ b ∈ fp, FpOk X pins (upd Ha D (.dK [])) b ∧ b < s3.heap.objs.size := fun b hb => by
    obtain ⟨o, eo, _⟩ := tu.obj _ _ sta b hb
    have lt2 := Heap.lt_size eo
    refine ⟨⟨?_, (fpa b hb).2⟩, by rw [eh3, Heap.size_push]; exact Nat.lt_succ_of_lt lt2⟩
    rw [upd_ne (by rw [← eD]; exact Nat.ne_of_lt lt2)]
    exact (fpa b hb).1
  have stb : tn 0 s3.heap := tu.keep _ _ _ sta fun b _ o e => by rw [eh3]; exact Heap.get?_push_of_some _ e
  have Ic := block_start Ib ok hN fpb
  have pg := hg s3 (upd Ha D (.dK [])) s3.heap.objs.size (cellsFrom (s3.heap.objs.size + 1) scope.names (cloFrom X.env.cells scope.names [])) fp
  have pt := ht s3 (upd Ha D (.dK [])) s3.heap.objs.size (cellsFrom (s3.heap.objs.size + 1) scope.names (cloFrom X.env.cells scope.names [])) fp
  have pk := hk s3 (upd Ha D (.dK [])) s3.heap.objs.size (cellsFrom (s3.heap.objs.size + 1) scope.names (cloFrom X.env.cells scope.names [])) fp
  have pv := he s3 (upd Ha D (.dK [])) s3.heap.objs.size (cellsFrom (s3.heap.objs.size + 1) scope.names (cloFrom X.env.cells scope.names [])) fp
  have pp := hp s3 (upd Ha D (.dK [])) s3.heap.objs.size (cellsFrom (s3.heap.objs.size + 1) scope.names (cloFrom X.env.cells scope.names [])) fp
  show codeAny _ _ (.compStart (.DictComp kx vx [⟨tg, iter, ifs, 0⟩] scope pos) 0 (.ref it) (.ref D) (compEnvC scope (cellsFrom (s3.heap.objs.size + 1) scope.names (cloFrom X.env.cells scope.names [])) s3.heap.objs.size X.env)) (compPost (model X.prog X.w) X.A X.xe use Qf (.ref D) s3.heap.objs.size) { s3 with heap := pushCells (s3.heap.push { cls := .type "dict", data := .dict #[] }) scope.names }
  generalize ece : compEnvC scope (cellsFrom (s3.heap.objs.size + 1) scope.names (cloFrom X.env.cells scope.names [])) s3.heap.objs.size X.env = ce at Ic pg pt pk pv pp ⊢
  have cloc : ce.locals = s3.heap.objs.size := by subst ece; rfl
  have nob : ∀ b ∈ fp, (upd Ha D (.dK [])) b = none := fun b hb => (fpb b hb).1.1
  generalize eHb : upd Ha D (.dK []) = Hb at Ib Ic pg pt pk pv pp w0 nob fpb
  generalize es4 : ({ s3 with heap := pushCells (s3.heap.push { cls := .type "dict", data := .dict #[] }) scope.names } : Shared) = s4 at Ic ⊢
  have stc : tn 0 s4.heap := tu.keep _ _ _ stb fun b _ o e => by rw [← es4]; exact pushCells_keeps _ _ _ _ (Heap.get?_push_of_some _ e)
  have still : ∀ {σ' : L2.St} {H' : Hp} {s' : Shared}, Inv (X.blk s3 Hb scope ce fp) [] σ' H' s' → (∀ b ∈ fp, H' b = none) → ∀ b ∈ fp, FpOk (X.blk s3 Hb scope ce fp) [] H' b := fun {σ' H' s'} I' hn b hb =>
    ⟨hn b hb, (I'.ok.exf b hb).1, I'.ok.exfs b hb, .inl hb, fun x c e => (I'.ok.exf b hb).2 x c e, fun p hp' => by cases hp'⟩
  have whole : codeAny (model X.prog X.w) X.A (.compLoop (.DictComp kx vx [⟨tg, iter, ifs, 0⟩] scope pos) 0 (.ref it) (.ref D) ce) (compPost (model X.prog X.w) X.A X.xe use Qf (.ref D) s3.heap.objs.size) s4 := by
    refine compLoop_anyD (fun n s' => ∃ i H', Inv (X.blk s3 Hb scope ce fp) [] (L2.wipe σ (own.map (·.2))) H' s' ∧ tn i s'.heap ∧ (∀ b ∈ fp, H' b = none) ∧ W i n H') ?_ m0 ⟨0, Hb, Ic, stc, nob, w0⟩
    rintro n s5 ⟨i, H5, I5, st5, n5, w5⟩
    rcases turn i n H5 w5 with ⟨stop, qq⟩ | ⟨go, Nx, hNx, stp⟩
    · refine thnF (tu.done (X.blk s3 Hb scope ce fp) rfl rfl rfl hc i [] s5 _ H5 (fun _ _ => False) I5 (still I5 n5) st5 stop) fun r s6 ⟨hr, I6⟩ => ?_
      subst hr
      have I7 : Inv X pins σ H5 s6 := Ib.call' (ch := fp) I6.os I6.base I6.hok I6.bare fun b hb => ⟨(fpb b hb).1.2.2.2.1, (fpb b hb).1.2.1, (fpb b hb).1.2.2.2.2.1, (fpb b hb).1.2.2.2.2.2⟩
      have nC : H5 s3.heap.objs.size = none := by
        have z : H5 ce.locals = none := I6.free
        rw [cloc] at z
        exact z
      obtain ⟨m, hn, _⟩ := I6.loc
      replace hn : s6.heap.Ns ce.locals m := hn
      rw [cloc] at hn
      exact hRR D s3.heap.objs.size s6 m H5 I7 qq hn (Ib.fpOk (Nat.le_refl _) nC)
    · refine thnF (tu.item (X.blk s3 Hb scope ce fp) rfl rfl rfl hc i [] s5 _ H5 (fun _ _ => False) I5 (still I5 n5) st5 go) fun r s6 ⟨u, hr, h6⟩ => ?_
      subst hr
      refine thnF h6 fun _ s7 ⟨x, H7, I7, r7, y7, st7, n7⟩ => ?_
      refine thnF (pg.run _ s7 _ H7 x u _ (I7.pinned (still I7 n7) (tu.obj _ _ st7)) r7 (stp x H7 y7)) fun _ s8 ⟨σ8, H8, I8, hw8, q8⟩ => ?_
      refine thnF (pt.run _ s8 σ8 H8 _ I8 q8) fun b s9 ⟨H9, I9, q9⟩ => ?_
      have over : ∀ {s' : Shared} {H' : Hp}, Inv (X.blk s3 Hb scope ce fp) ([] ++ pinsAt fp s7.heap) σ8 H' s' → Nx H' → ∃ m, m < n ∧ ∃ i H', Inv (X.blk s3 Hb scope ce fp) [] (L2.wipe σ (own.map (·.2))) H' s' ∧ tn i s'.heap ∧ (∀ b ∈ fp, H' b = none) ∧ W i m H' := fun {s' H'} I' nx => by
        obtain ⟨m', hm, w'⟩ := hNx H' nx
        have at7 : ∀ b ∈ fp, ∀ o, s7.heap.get? b = some o → s'.heap.get? b = some o ∧ H' b = none := fun b hb o e =>
          ⟨(I'.pin (b, o) (List.mem_append_right _ (List.mem_append_right _ (mem_pinsAt hb e)))).1, (I'.pin (b, o) (List.mem_append_right _ (List.mem_append_right _ (mem_pinsAt hb e)))).2.1⟩
        refine ⟨m', hm, i + 1, H', (I'.unpinned (pins := [])).weak (by rw [← hw8, wipe_length]) (fun j v e => ?_), tu.keep _ _ _ st7 fun b hb o e => (at7 b hb o e).1, fun b hb => ?_, w'⟩
        · rw [← hw8] at e
          exact (wipe_some e).1
        · obtain ⟨o, e, _⟩ := tu.obj _ _ st7 b hb
          exact (at7 b hb o e).2
      cases b with
      | false =>
        simp only [Bool.false_eq_true, if_false] at q9 ⊢
        exact over I9 q9
      | true =>
        simp only [if_true] at q9 ⊢
        refine thnF (pk.run _ s9 σ8 H9 _ I9 q9) fun z s10 ⟨yk, H10, I10, r10, q10⟩ => ?_
        refine thnF (pv.run _ s10 σ8 H10 _ I10 q10) fun z2 s11 ⟨yv, H11, I11, r11, nx⟩ => ?_
        exact thn (pp _ s11 σ8 H11 _ D yk yv z z2 _ I11 r10 r11 nx) fun _ s12 ⟨H12, I12, n12⟩ => over I12 n12
  exact codeAny_compStart_dict whole (tu.self X.A 0 _ _ _ stc whole)
variable {kx vx tg iter : Expr} {ifs : List Expr} {scope : Scope} {own : List (Str × Nat)} {pos : Pos} {wi : TI} {g : TG} {tt : TT} {tk tv : TE} {put : Addr → V → V → Hp → (Hp → Prop) → Prop}
theorem pe_dcG (hc : X.calm = true) (hN : X.N.Nodup) (hi : PI X tg iter wi) (ok : BlkOk X.N X.env.scope scope own)
    (hg : Blks X scope fun Y => PG Y tg g) (ht : Blks X scope fun Y => PTs Y ifs tt) (hk : Blks X scope fun Y => PE Y kx tk) (he : Blks X scope fun Y => PE Y vx tv) (hp : Blks X scope fun Y => PutR Y put)
    (hs : ∀ x, foldedSetIterable iter X.env x = pure x) : PE X (.DictComp kx vx [⟨tg, iter, ifs, 0⟩] scope pos) (tDcG wi g tt tk tv put (own.map (·.2))) := by
  refine ⟨fun pins s σ H Q I h => ?_⟩
  rw [arm_eval_DictComp]
  refine dcG_core hc hN I hi ok hg ht hk he hp hs h fun D C s' m H' I' q hn f => ⟨m, hn, fun h'' sb => ?_⟩
  exact ⟨.ref D, H', I'.turned (t' := s'.toks) (fun b o hb e => (sb.2 b hb).trans e) f.1 f.2.1 f.2.2.2.1 f.2.2.2.2.1 f.2.2.2.2.2, rfl, q⟩
/-- name = {..} -/
theorem ps_setDcG {i : Nat} {y : Str} {py spos : Pos} (hc : X.calm = true) (hN : X.N.Nodup) (hy : X.N[i]? = some y) (hyl : X.env.scope.names.lookup y = some .local)
    (hsw : swapsWith (.DictComp kx vx [⟨tg, iter, ifs, 0⟩] scope pos) (some (.Name y py)) spos.line X.env = pure true) (hi : PI X tg iter wi) (ok : BlkOk X.N X.env.scope scope own)
    (hg : Blks X scope fun Y => PG Y tg g) (ht : Blks X scope fun Y => PTs Y ifs tt) (hk : Blks X scope fun Y => PE Y kx tk) (he : Blks X scope fun Y => PE Y vx tv) (hp : Blks X scope fun Y => PutR Y put)
    (hs : ∀ x, foldedSetIterable iter X.env x = pure x) : PS X (.Assign [.Name y py] (.DictComp kx vx [⟨tg, iter, ifs, 0⟩] scope pos) spos) (tAsg (tDcG wi g tt tk tv put (own.map (·.2))) (gName i)) := by
  refine ⟨fun pins s σ H D I h => ?_⟩
  rw [exec_Assign_Name_used _ _ _ _ hsw]
  refine wpAny_bind (wpAny_standAt (wpAny_bind ?_))
  show wpAny _ X.A (do let _ ← comprehension (.DictComp kx vx [⟨tg, iter, ifs, 0⟩] scope pos) scope X.env (firstIterPos [⟨tg, iter, ifs, 0⟩] pos) newDict false (eval iter X.env) (some (assign (.Name y py) X.env))) _ _ s
  replace h : tDcG wi g tt tk tv put (own.map (·.2)) σ H (fun x H1 => gName i x σ H1 D.nx) := h
  refine wpAny_bind (thn (dcG_core (Qf := fun _ s' => SP X pins D .next s') hc hN I hi ok hg ht hk he hp hs h fun L C s' m H' I' q hn f => ?_) fun _ s' hq => wpAny_pure (wpAny_pure hq))
  show wpAny _ _ (assign (.Name y py) X.env (.ref L)) _ _ _
  refine wpAny_assign_Name (store_ok2 (v := V.ref L) I' hN hy (.inl hyl) rfl (fun s2 I2 ⟨a, sb, ha⟩ => ?_) (.inr hyl))
  have haC : C ≠ a := by
    rcases ha with z | z
    · rw [z]; exact f.2.1
    · exact fun e => f.2.2.2.2.1 y a z e.symm
  refine ⟨m, hn.sameBut sb haC, fun h3 sb3 => ?_⟩
  exact ⟨_, H', I2.turned (t' := s2.toks) (fun b o hb e => (sb3.2 b hb).trans e) f.1 f.2.1 f.2.2.2.1 f.2.2.2.2.1 f.2.2.2.2.2, q⟩
end
section
variable {C : Tx} {g : Gt} {r : Rec} {l : Nat}
theorem dc_rd {tg : Tg} {it : II} {ifs : List IE} {ke ve : IE} {own : List Nat} {ρ : L2.St} {H : Hp} {Q : VK} {ι : List Addr} {σ : Sg} {h h1 h2 : Hi} {src : Src} (sr : SR C ι h H) (rs : RepS C.K H ι σ ρ)
    (e1 : srcI r l it σ h = some (src, h1)) (e2 : dcT r l src tg ifs ke ve (wipeS σ own) h1.length loopMax 0 (h1 ++ [.dk []]) = some h2) (hsl : ∀ j ∈ tg.slots, j ∈ own) (k : PV C ι H (.ref h1.length) h2 Q) :
    tDcG (rdI C r l it) (tg2 C.K tg) (rdTs C r l ifs) (rdE C r l ke) (rdE C r l ve) (rPut C) own ρ H Q := by
  refine ⟨ι, σ, h, sr, rs, src, h1, e1, fun ι1 H1 J to1 sa D hD => ?_⟩
  have toN : To C ι1 H1 (ι1 ++ [D]) (h1 ++ [.dk []]) (upd H1 D (.dK [])) := To.new to1.sr hD ⟨[], upd_same, .nil⟩
  have hacc : (ι1 ++ [D])[h1.length]? = some D := by rw [← to1.sr.len]; simp
  have rs1 : RepS C.K (upd H1 D (.dK [])) (ι1 ++ [D]) (wipeS σ own) (L2.wipe ρ own) := (toN.repS to1.sr (to1.repS sr rs)).wipe own
  have sa1 := sa.to to1.sr toN
  have k' : ∀ ι' H', To C (ι1 ++ [D]) (upd H1 D (.dK [])) ι' h2 H' → Q (.ref D) H' := fun ι' H' to => k ι' H' (.ref D) ((to1.trans toN).trans to) (.ref (to.ids _ _ hacc))
  generalize (ι1 ++ [D]) = ιa at *
  generalize (h1 ++ [MO.dk []]) = ha at *
  generalize upd H1 D (.dK []) = Hq at *
  have nl0 : ∀ (h : Hi) (ι : List Addr) (H : Hp), True := fun _ _ _ => trivial
  refine ⟨fun i m H => ∃ ι2 h2', To C ιa Hq ι2 h2' H ∧ dcT r l src tg ifs ke ve (wipeS σ own) h1.length m i h2' = some h2, ⟨loopMax, ιa, ha, To.refl toN.sr, e2⟩, ?_⟩
  rintro i m H ⟨ι2, h3, to2, e⟩
  have sa2 := sa1.to toN.sr to2
  have rs2 := to2.repS toN.sr rs1
  cases m with
  | zero => cases e
  | succ m =>
    simp only [dcT] at e
    obtain ⟨nx1, nx2⟩ := next_ok (i := i) to2.sr sa2
    split at e
    · cases e
    · rename_i en
      cases e
      exact .inl ⟨nx1 en, k' _ _ to2⟩
    · rename_i t en
      obtain ⟨go, yl⟩ := nx2 t en
      split at e
      · cases e
      · rename_i σ1 eb
        refine .inr ⟨go, fun H' => ∃ ι2 h2', To C ιa Hq ι2 h2' H' ∧ dcT r l src tg ifs ke ve (wipeS σ own) h1.length m (i + 1) h2' = some h2, fun H' q => ⟨m, Nat.lt_succ_self _, q⟩, fun x H' y => ?_⟩
        obtain ⟨to3, rx⟩ := yl x H' y
        have rs3 := to3.repS to2.sr rs2
        refine bindT_ok C.K tg H' ι2 t x _ σ1 _ _ eb rx rs3 fun ρ' rs4 o => ⟨out_wipe o hsl, ?_⟩
        split at e
        · rename_i h4 ei
          refine ⟨ι2, σ1, h3, to3.sr, rs4, false, h4, ei, fun ι4 H4 to4 => ?_⟩
          dsimp only
          rw [if_neg (by decide)]
          exact ⟨ι4, h4, (to2.trans to3).trans to4, e⟩
        · rename_i h4 ei
          refine ⟨ι2, σ1, h3, to3.sr, rs4, true, h4, ei, fun ι4 H4 to4 => ?_⟩
          dsimp only
          rw [if_pos rfl]
          split at e
          · rename_i yk h5 ek
            split at e
            · rename_i zk h6 ez
              split at e
              · rename_i h7 es
                refine ⟨ι4, σ1, h4, to4.sr, to4.repS to3.sr rs4, yk, h5, ek, fun ι5 H5 yv to5 ry => ⟨ι5, σ1, h5, to5.sr, to5.repS to4.sr (to4.repS to3.sr rs4), zk, h6, ez, fun ι6 H6 zv to6 rz => ?_⟩⟩
                have to16 := (((to2.trans to3).trans to4).trans to5).trans to6
                unfold setD at es
                split at es
                · cases es
                · rename_i nl
                  exact ⟨ι6, h6, h1.length, yk, zk, h7, to6.sr, to16.ids _ _ hacc, to6.rep to5.sr ry, rz, es, fun ts q => nl ts q, fun H7 to7 => ⟨ι6, h7, to16.trans to7, e⟩⟩
              · cases e
            · cases e
          · cases e
        · cases e
end
end Gn

/-! The engine is right, part 8: dict displays, ranges, calls of defs. -/
namespace Gn
open PySem PySem.Spec PyProof.Rows L2 RZ

/-! ### dict displays -/
abbrev TPr := L2.St → Hp → (List (V × V) → Hp → Prop) → Prop
structure PPr (X : Cx) (ks vs : List Expr) (t : TPr) : Prop where
  run : ∀ (pos : Pos) (pins : List (Addr × Obj)) (s : Shared) (σ : L2.St) (H : Hp) (Q : List (V × V) → Hp → Prop), Inv X pins σ H s → t σ H Q →
    wpAny (model X.prog X.w) X.A (evalPairs (pairTrees (ks.map some) vs X.env pos)) (fun ws s' => ∃ ps H', Inv X pins σ H' s' ∧ VV ps ws ∧ Q ps H') X.xe s
def putsR (put : Addr → V → V → Hp → (Hp → Prop) → Prop) (D : Addr) : List (V × V) → Hp → (Hp → Prop) → Prop
  | [], H, Q => Q H
  | p :: ps, H, Q => put D p.1 p.2 H fun H' => putsR put D ps H' Q
section
variable {X : Cx}
theorem puts_ok {put : Addr → V → V → Hp → (Hp → Prop) → Prop} (hp : PutR X put) {pins : List (Addr × Obj)} {σ : L2.St} {E : Value → Shared → Prop} {D : Addr} {Q : Hp → Prop} : ∀ (ps : List (V × V)) (ws : List (Value × Value)) (s : Shared) (H : Hp), Inv X pins σ H s → VV ps ws →
    putsR put D ps H Q → wpAny (model X.prog X.w) X.A (forIn ws PUnit.unit fun x _ => (match x with | (k, v) => do dictSet D k v; pure (ForInStep.yield PUnit.unit) : Sem (ForInStep PUnit))) (fun _ s' => ∃ H', Inv X pins σ H' s' ∧ Q H') E s
  | [], _, s, H, I, r, q => by
    cases r
    rw [List.forIn_nil]
    exact wpAny_pure ⟨H, I, q⟩
  | p :: ps, _, s, H, I, r, q => by
    cases r with
    | @cons _ b _ bs h1 h2 =>
      rw [List.forIn_cons]
      refine wpAny_bind (wpAny_bind (thn (hp pins s σ H E D p.1 p.2 b.1 b.2 _ I h1.1 h1.2 q) fun _ s1 ⟨H1, I1, q1⟩ => ?_))
      refine wpAny_pure ?_
      exact puts_ok hp ps bs s1 H1 I1 h2 q1
def tDspG (t : TPr) (put : Addr → V → V → Hp → (Hp → Prop) → Prop) : TE := fun σ H Q => ∀ D, H D = none → t σ (upd H D (.dK [])) fun ps H2 => putsR put D ps H2 fun H3 => Q (.ref D) H3
theorem pe_dspG {ks vs : List Expr} {pos : Pos} {t : TPr} {put : Addr → V → V → Hp → (Hp → Prop) → Prop} (h : PPr X ks vs t) (hp : PutR X put) (hl : ks.length = vs.length) (h0 : ks ≠ []) (h15 : ks.length ≤ 15) : PE X (.Dict (ks.map some) vs pos) (tDspG t put) := by
  have hall : (ks.map some).all (·.isSome) = true := by rw [List.all_map]; exact List.all_eq_true.mpr fun _ _ => rfl
  have hl' : (ks.map some).length = vs.length := by rw [List.length_map]; exact hl
  have hn := pairTrees_length (ks.map some) vs X.env pos hall hl'
  rw [List.length_map] at hn
  refine ⟨fun pins s σ H Q I q => ?_⟩
  rw [arm_eval_Dict, zip_pairTrees (ks.map some) vs X.env pos hall hl', dictDisplay_pairs _ (fun e => by rw [e] at hn; exact h0 (List.length_eq_zero_iff.mp hn.symm)) (by omega)]
  refine wpAny_bind (wpAny_standAt (wpAny_bind ?_))
  unfold subDict
  refine wpAny_bind (wpAny_alloc ?_)
  refine wpAny_bind (wpAny_holding ?_)
  rw [if_pos (by omega)]
  have I1 : Inv X pins σ (upd H s.heap.objs.size (.dK [])) { s with heap := s.heap.push { cls := .type "dict", data := .dict #[] } } := I.laid (a := s.heap.objs.size) (t' := s.toks) (fun _ _ q => Heap.get?_push_of_some _ q) (Nat.le_refl _) (dk_empty s.heap I.big)
  refine wpAny_bind (thn (h.run pos pins _ σ _ _ I1 (q _ (I.hok.fresh (Nat.le_refl _)))) fun ws s1 ⟨ps, H1, I2, rr, q1⟩ => ?_)
  refine wpAny_holding (wpAny_bind ?_)
  exact thn (puts_ok hp ps ws s1 H1 I2 rr q1) fun _ s3 ⟨H3, I3, q3⟩ => wpAny_pure (wpAny_pure (wpAny_pure ⟨.ref s.heap.objs.size, H3, I3, rfl, q3⟩))
end
section
variable {C : Tx} {g : Gt} {r : Rec} {l : Nat} {c : SC} {X : Cx}
abbrev rdPr (C : Tx) (r : Rec) (l : Nat) (es : List (IE × IE)) : TPr := fun ρ H Q => ∃ ι σ h, SR C ι h H ∧ RepS C.K H ι σ ρ ∧ ∃ ps h', pairsT r l es σ h = some (ps, h') ∧ ∀ ι' H' vs, To C ι H ι' h' H' → Paired (fun (p : T × T) (q : V × V) => Rep C.K H' ι' p.1 q.1 ∧ Rep C.K H' ι' p.2 q.2) ps vs → Q vs H'
theorem snd_pairs {f : Expr → IE} (hp : ∀ e, PE X e (rdE X.tx r l (f e))) : ∀ (ks vs : List Expr), ks.length = vs.length → PPr X ks vs (rdPr X.tx r l ((ks.zip vs).map fun p => (f p.1, f p.2)))
  | [], [], _ => ⟨fun pos pins s σ H Q I ⟨ι, σ', h, sr, rs, ps, h', e, k⟩ => by
    replace e : some (([] : List (T × T)), h) = some (ps, h') := e
    cases e
    exact pairTrees_nil_walk ⟨[], H, I, .nil, k _ _ _ (To.refl sr) .nil⟩⟩
  | [], _ :: _, e => by cases e
  | _ :: _, [], e => by cases e
  | a :: ks, b :: vs, e => ⟨fun pos pins s σ H Q I ⟨ι, σ', h, sr, rs, ps, h', e', k⟩ => by
    have ih := snd_pairs hp ks vs (by simpa using e)
    replace e' : pairsT r l ((f a, f b) :: (ks.zip vs).map fun p => (f p.1, f p.2)) σ' h = some (ps, h') := e'
    simp only [pairsT] at e'
    split at e'
    · rename_i x h1 e1
      split at e'
      · rename_i y h2 e2
        split at e'
        · rename_i qs h3 e3
          cases e'
          refine pairTrees_cons_walk (thn ((hp a).run pins s σ H (fun v H1 => ∃ ι1, To X.tx ι H ι1 h1 H1 ∧ Rep X.K H1 ι1 x v) I ⟨ι, σ', h, sr, rs, x, h1, e1, fun ι1 H1 v1 to1 r1 => ⟨ι1, to1, r1⟩⟩) fun u1 s1 ⟨v1, H1, I1, ru1, ι1, to1, r1⟩ => ?_)
          refine thn ((hp b).run pins s1 σ H1 (fun v H2 => ∃ ι2, To X.tx ι1 H1 ι2 h2 H2 ∧ Rep X.K H2 ι2 y v) I1 ⟨ι1, σ', h1, to1.sr, to1.repS sr rs, y, h2, e2, fun ι2 H2 v2 to2 r2 => ⟨ι2, to2, r2⟩⟩) fun u2 s2 ⟨v2, H2, I2, ru2, ι2, to2, r2⟩ => ?_
          refine thn (ih.run pos pins s2 σ H2 (fun vs H3 => Q ((v1, v2) :: vs) H3) I2 ⟨ι2, σ', h2, to2.sr, to2.repS to1.sr (to1.repS sr rs), qs, _, e3, fun ι3 H3 vs to3 r3 => k _ _ _ ((to1.trans to2).trans to3) (.cons ⟨to3.rep to2.sr (to2.rep to1.sr r1), to3.rep to2.sr r2⟩ r3)⟩) fun ws s3 ⟨ps, H3, I3, rr, q⟩ => ?_
          exact ⟨_, H3, I3, .cons ⟨ru1, ru2⟩ rr, q⟩
        · cases e'
      · cases e'
    · cases e'⟩
theorem puts_rd {D : Addr} {d : Nat} {h' : Hi} {Qd : Hp → Prop} : ∀ (ps : List (T × T)) (qs : List (V × V)) (ι1 : List Addr) (h1 : Hi) (H1 : Hp), SR C ι1 h1 H1 → ι1[d]? = some D → Paired (fun (p : T × T) (q : V × V) => Rep C.K H1 ι1 p.1 q.1 ∧ Rep C.K H1 ι1 p.2 q.2) ps qs →
    putD d ps h1 = some h' → (∀ ι' H', To C ι1 H1 ι' h' H' → Qd H') → putsR (rPut C) D qs H1 Qd
  | [], _, ι1, h1, H1, sr, hd, r, e, k => by
    cases r
    cases e
    exact k _ _ (To.refl sr)
  | (x, y) :: ps, _, ι1, h1, H1, sr, hd, r, e, k => by
    cases r with
    | @cons _ q _ qs hr hrs =>
      simp only [putD] at e
      split at e
      · rename_i h3 e3
        unfold setD at e3
        split at e3
        · cases e3
        · rename_i nl
          refine ⟨ι1, h1, d, x, y, h3, sr, hd, hr.1, hr.2, e3, fun ts z => nl ts z, fun H3 to3 => ?_⟩
          exact puts_rd ps qs ι1 h3 H3 to3.sr hd (L2.Paired.mapP hrs fun _ _ z => ⟨to3.rep sr z.1, to3.rep sr z.2⟩) e fun ι' H' to => k _ _ (to3.trans to)
      · cases e
theorem rd_dct {kvs : List (IE × IE)} {ρ : L2.St} {H : Hp} {Q : VK} (h : rdE C (step g r) l (.dct kvs) ρ H Q) : tDspG (rdPr C r l kvs) (rPut C) ρ H Q := by
  obtain ⟨ι, σ, h, sr, rs, t, h', e, k⟩ := h
  replace e : stepE g r l (.dct kvs) σ h = some (t, h') := e
  simp only [stepE] at e
  split at e
  · rename_i ps h1 e1
    split at e
    · rename_i h2 e2
      cases e
      intro D hD
      have toN : To C ι H (ι ++ [D]) (h ++ [.dk []]) (upd H D (.dK [])) := To.new sr hD ⟨[], upd_same, .nil⟩
      have hacc : (ι ++ [D])[h.length]? = some D := by rw [← sr.len]; simp
      refine ⟨ι ++ [D], σ, h ++ [.dk []], toN.sr, toN.repS sr rs, ps, h1, e1, fun ι1 H1 vs to1 r1 => ?_⟩
      have hd1 := to1.ids _ _ hacc
      exact puts_rd ps vs ι1 h1 H1 to1.sr hd1 r1 e2 fun ι' H' to => k _ _ _ ((toN.trans to1).trans to) (.ref (to.ids _ _ hd1))
    · cases e
  · cases e
end
end Gn

/-! The engine is right, part 9: ranges as values, places among constants, calls, locked walks. -/
namespace Gn
open PySem PySem.Spec PyProof.Rows L2 RZ

section
variable {C : Tx} {g : Gt} {r : Rec} {l : Nat} {c : SC} {X : Cx}
theorem bltn_ok {x : Str} {b : BI} (h : find bltn x = some b) : bootBuiltins x = some b.val ∧ x ≠ "__name__" ∧ (x == ("__debug__" : Str)) = false ∧ ∀ ty, b ≠ .isi ty := by
  have hm := find_mem h
  simp only [bltn, List.mem_cons, List.not_mem_nil, or_false, Prod.mk.injEq] at hm
  rcases hm with ⟨rfl, rfl⟩ | ⟨rfl, rfl⟩ | ⟨rfl, rfl⟩ | ⟨rfl, rfl⟩ | ⟨rfl, rfl⟩ | ⟨rfl, rfl⟩ | ⟨rfl, rfl⟩ | ⟨rfl, rfl⟩ | ⟨rfl, rfl⟩ | ⟨rfl, rfl⟩ | ⟨rfl, rfl⟩ <;>
    exact ⟨by decide +kernel, by decide +kernel, by decide +kernel, fun ty z => nomatch z⟩
theorem tys_ok {x : Str} {b : String} (h : find tys x = some b) : bootBuiltins x = some (.type b) ∧ x ≠ "__name__" ∧ (x == ("__debug__" : Str)) = false := by
  have hm := find_mem h
  simp only [tys, List.mem_cons, List.not_mem_nil, or_false, Prod.mk.injEq] at hm
  rcases hm with ⟨rfl, rfl⟩ | ⟨rfl, rfl⟩ | ⟨rfl, rfl⟩ | ⟨rfl, rfl⟩ | ⟨rfl, rfl⟩ | ⟨rfl, rfl⟩ <;> exact ⟨by decide +kernel, by decide +kernel, by decide +kernel⟩
/-- a built-in, called -/
theorem snd_bi (x : XOk g c l X) {y : Str} {p pos : Pos} {b : BI} {e : Expr} {es : List Expr} {ia : List IE} (hg : isGlob c y = true) (hb : find bltn y = some b) (ha : PA X (e :: es) (rdA X.tx r l ia)) (hn : (e :: es).all noStar = true) :
    PE X (.Call (.Name y p) (e :: es) [] pos) (rdE X.tx (step g r) l (.bi b ia)) := by
  obtain ⟨h1, h2, h3, h4⟩ := bltn_ok hb
  rw [List.all_cons, Bool.and_eq_true] at hn
  have hs := star_cons (env := X.env) (es := es) hn.1
  have hpl : (backTo pos (starEach es X.env)).any (·.1) = false := star_plain hn.2
  have ok := bi_ok x.calm x.hu b h4
  refine peW ?_ fun ρ H Q q => rd_bi q
  cases b <;> first
    | exact pe_callB ok (x.gl_ hg) (x.bmg _ (in_bltn hb)) h1 ha h2 h3 hs hpl
    | exact pe_callTy ok (x.gl_ hg) (x.bmg _ (in_bltn hb)) h1 ha h2 h3 hs hpl
theorem snd_isi (x : XOk g c l X) {p pos tp : Pos} {a : Expr} {t : Str} {ty : String} {ia : IE} (hg : isGlob c sIsi = true) (ht : isGlob c t = true) (hty : find tys t = some ty) (ha : PE X a (rdE X.tx r l ia)) (hn : noStar a = true) :
    PE X (.Call (.Name sIsi p) [a, .Name t tp] [] pos) (rdE X.tx (step g r) l (.isi ia ty)) := by
  obtain ⟨h1, h2, h3⟩ := tys_ok hty
  have pt : PE X (.Name t tp) (tC (.ty ty)) := pe_bltn (x.gl_ ht) (x.bmg _ (in_tys hty)) h1 rfl h2 h3
  refine peW (pe_callB (isi_ok ty) (x.gl_ hg) (x.bmg _ in_isi) (by decide +kernel) (pa_cons ha (pa_cons pt pa_nil rfl) (star_cons hn)) (by decide) (by decide) (star_cons hn) rfl) fun ρ H Q q => rd_isi q
/-! ### ranges -/
theorem rg_rep {K : PySem.W.Frag} {H : Hp} {ι : List Addr} (j : Int) : RepL K H ι ((List.range j.toNat).map fun (k : Nat) => T.int k) (rgV 0 j) := by
  unfold rgV
  rw [Int.sub_zero]
  generalize List.range j.toNat = ns
  induction ns with
  | nil => exact .nil
  | cons n ns ih =>
    refine .cons ?_ ih
    dsimp only
    rw [Int.zero_add]
    exact .int _
theorem rgOk_of {j : Int} (h : absLt j 100000 = true) : RgOk 0 j := by
  have := absLt_ok h
  exact ⟨by omega, by omega, by omega, by omega, by omega⟩
theorem snd_rangeL (x : XOk g c l X) {p pos p2 pos2 : Pos} {z : Expr} {iz : IE} (hg : isGlob c "list" = true) (hg2 : isGlob c sRange = true) (hz : PE X z (rdE X.tx r l iz)) (hn : noStar z = true) :
    PE X (.Call (.Name "list" p) [.Call (.Name sRange p2) [z] [] pos2] [] pos) (rdE X.tx (step g r) l (.rangeL iz)) := by
  refine peW (pe_listRg x.calm (x.gl_ hg) (x.bmg _ (by decide +kernel)) (prg_1 (x.gl_ hg2) (x.bmg _ in_range) hz (star_cons hn))) fun ρ H Q ⟨ι, σ, h, sr, rs, t, h', e, k⟩ => ?_
  replace e : stepE g r l (.rangeL iz) σ h = some (t, h') := e
  simp only [stepE] at e
  split at e
  · rename_i j h1 e1
    obtain ⟨hb, e⟩ := bif_some e
    cases e
    exact ⟨ι, σ, h, sr, rs, _, _, e1, fun ι1 H1 v1 to1 r1 => ⟨j, r1.intE, rgOk_of hb, fun q hq => k _ _ _ (to1.trans (To.lst to1.sr hq (rg_rep j))) (rep_new to1.sr)⟩⟩
  · cases e
theorem snd_rangeT (x : XOk g c l X) {p pos p2 pos2 : Pos} {z : Expr} {iz : IE} (hg : isGlob c "tuple" = true) (hg2 : isGlob c sRange = true) (hz : PE X z (rdE X.tx r l iz)) (hn : noStar z = true) :
    PE X (.Call (.Name "tuple" p) [.Call (.Name sRange p2) [z] [] pos2] [] pos) (rdE X.tx (step g r) l (.rangeT iz)) := by
  refine peW (pe_tupRg x.calm (x.gl_ hg) (x.bmg _ (by decide +kernel)) (prg_1 (x.gl_ hg2) (x.bmg _ in_range) hz (star_cons hn))) fun ρ H Q ⟨ι, σ, h, sr, rs, t, h', e, k⟩ => ?_
  replace e : stepE g r l (.rangeT iz) σ h = some (t, h') := e
  simp only [stepE] at e
  split at e
  · rename_i j h1 e1
    obtain ⟨hb, e⟩ := bif_some e
    cases e
    exact ⟨ι, σ, h, sr, rs, _, _, e1, fun ι1 H1 v1 to1 r1 => ⟨j, r1.intE, rgOk_of hb, fun q hq => k _ _ _ (to1.trans (To.tup to1.sr hq)) (rep_tup hq (rg_rep j))⟩⟩
  · cases e
/-! ### calls of defs -/
theorem rd_call {n : Nat} {f : Nat} {fi : FI} {es : List IE} {ρ : L2.St} {H : Hp} {Q : VK} (hf : g.fns[f]? = some fi) (h : rdE C (step g (run g n)) (l + 1) (.call f es) ρ H Q) : tCall (spR C g fi l) [] E0 (rdA C (run g n) (l + 1) es) ρ H Q := by
  obtain ⟨ι, σ, h, sr, rs, t, h', e, k⟩ := h
  replace e : stepE g (run g n) (l + 1) (.call f es) σ h = some (t, h') := e
  simp only [stepE] at e
  split at e
  · rename_i ts h1 e1
    rw [hf] at e
    simp only at e
    refine ⟨ι, σ, h, sr, rs, ts, h1, e1, fun ι1 H1 vs to1 r1 => ?_⟩
    dsimp only
    rw [List.append_nil]
    exact spF_R ⟨n, ι1, h1, ts, t, h', to1.sr, r1, e, fun ι2 H2 v2 to2 r2 => k _ _ _ (to1.trans to2) r2⟩
  · cases e
theorem snd_call {n : Nat} (x : XOk g c l X) {y : Str} {p pos : Pos} {f : Nat} {e : Expr} {es : List Expr} {ia : List IE} (hg : isGlob c y = true) (hp : plain y = true) (hb : find c.gl y = some (.fn f)) (ha : PA X (e :: es) (rdA X.tx (run g n) l ia)) (hn : (e :: es).all noStar = true) :
    PE X (.Call (.Name y p) (e :: es) [] pos) (rdE X.tx (step g (run g n)) l (.call f ia)) := by
  cases l with
  | zero => exact peN fun _ _ _ => rd_none fun _ _ => rfl
  | succ l =>
    obtain ⟨fi, h1, h2⟩ := x.gl y _ hb
    rw [List.all_cons, Bool.and_eq_true] at hn
    exact peW (C8.pe_c (h2 l (Nat.lt_succ_self _)) x.room (Nat.le_refl _) (x.gl_ hg) ha (plain_ok hp).1 (star_cons hn.1) (star_plain hn.2)) fun ρ H Q q => rd_call h1 q
/-! ### walks over dicts -/
theorem pi_k {tg e : Expr} {i : Nat} (he : PE X e (rdE X.tx r l (.var i))) : PI X tg e (rdI X.tx r l (.keys i)) := by
  refine piW (pi_keys he) fun ρ H R ⟨ι, σ, h, sr, rs, src, h', e, k⟩ => ?_
  simp only [srcI] at e
  split at e
  · rename_i a h1 ea
    split at e
    · rename_i kvs hl
      cases e
      refine ⟨ι, σ, h, sr, rs, _, _, ea, fun ι1 H1 v1 to1 r1 => ?_⟩
      obtain ⟨ad, ob, ws, rfl, hia, ha, rk⟩ := to1.sr.lk r1 hl
      exact ⟨ad, ob, rfl, .inl ⟨ws, ha, k _ _ _ to1 (.keys hia ha)⟩⟩
    · cases e
  · cases e
theorem pi_it {elts : List Expr} {kk : Nat} {tpos : Pos} {y : Str} {i : Nat} {pos ap p : Pos} (he : PE X (.Name y pos) (rdE X.tx r l (.var i))) (hl : (ap.endLine == p.line) = true) :
    PI X (.Tuple elts kk tpos) (.Call (.Attribute (.Name y pos) sItems ap) [] [] p) (rdI X.tx r l (.items i)) := by
  refine piW (pi_items he (base_ok rfl) hl) fun ρ H R ⟨ι, σ, h, sr, rs, src, h', e, k⟩ => ?_
  simp only [srcI] at e
  split at e
  · rename_i a h1 ea
    split at e
    · rename_i kvs hl
      cases e
      refine ⟨ι, σ, h, sr, rs, _, _, ea, fun ι1 H1 v1 to1 r1 => ?_⟩
      obtain ⟨ad, ob, ws, rfl, hia, ha, rk⟩ := to1.sr.lk r1 hl
      exact ⟨ad, ob, ws, rfl, ha, k _ _ _ to1 (.items hia ha)⟩
    · cases e
  · cases e
end
end Gn

set_option maxHeartbeats 4000000
/-! The engine is right, part 10: every expression. -/
namespace Gn
open PySem PySem.Spec PyProof.Rows L2 RZ

structure SndE (g : Gt) (r : Rec) : Prop where
  e : ∀ (f : Nat) (c : SC) (l : Nat) (X : Cx) (ex : Expr), XOk g c l X → PE X ex (rdE X.tx r l (cE f c ex))
  t : ∀ (f : Nat) (c : SC) (l : Nat) (X : Cx) (ex : Expr), XOk g c l X → PT X ex (rdT X.tx r l (cT f c ex))
  a : ∀ (f : Nat) (c : SC) (l : Nat) (X : Cx) (es : List Expr), XOk g c l X → es.all noStar = true → PA X es (rdA X.tx r l (es.map (cE f c)))
section
variable {C : Tx} {g : Gt} {r : Rec} {l : Nat} {c : SC} {X : Cx}
theorem XOk.blk (x : XOk g c l X) (scope : Scope) (s : Shared) (H : Hp) (D : Addr) (cl : List (Str × Addr)) (fp : List Addr) : XOk g (sub c scope) l (X.blk s H scope (compEnvC scope cl D X.env) fp) where
  N := x.N
  nd := x.nd
  sc := by
    show relS scope X.env.scope = relS scope c.sc
    rw [x.sc]
  calm := x.calm
  room := x.room
  st := fun y h => by
    show (scope.names.lookup y == some .cell) = true ∨ (relS scope X.env.scope).names.lookup y = some .local
    rw [x.sc]
    unfold stOk at h
    split at h
    · rename_i e; exact .inr e
    · split at h
      · rename_i eb; cases eb
      · rename_i s' eb
        cases eb
        split at h
        · rename_i e2
          rw [e2]; exact .inl rfl
        · cases h
    · cases h
  xe := rfl
  bmg := x.bmg
  gl := x.gl
  fl := x.fl
  mt := x.mt
theorem XOk.bk (x : XOk g c l X) {scope : Scope} {own : List (Str × Nat)} (h : blkC c.N c.sc scope own = true) : BlkOk X.N X.env.scope scope own := by rw [x.N, x.sc]; exact blkOk_by h
theorem noSet_ok {it : Expr} (h : noSet it = true) (env : Env) : ∀ x, foldedSetIterable it env x = pure x := by
  cases it <;> first | exact fun _ => rfl | cases h
theorem pts_any {Y : Cx} {ifs : List Expr} {f : Expr → IE} (h : ∀ e, PT Y e (rdT Y.tx r l (f e))) (hl : Nat.ble ifs.length 1 = true) : PTs Y ifs (rdTs Y.tx r l (ifs.map f)) := by
  match ifs with
  | [] => exact pts0
  | [e] => exact pts1 (h e)
  | _ :: _ :: _ => simp [Nat.ble] at hl
/-! ### what is walked, by the syntax -/
theorem snd_val (S : SndE g r) (x : XOk g c l X) (n : Nat) (tg it : Expr) : PI X tg it (rdI X.tx r l (.val (cE n c it))) ∧ PI X tg it (rdI X.tx r l (lockII (.val (cE n c it)))) := by
  have h1 := pi_val (tg := tg) (S.e n c l X it x)
  refine ⟨h1, ?_⟩
  have he := S.e n c l X it x
  generalize cE n c it = ie at *
  cases ie with
  | var i => exact pi_k he
  | _ => exact h1
theorem cName_var {y : Str} {i : Nat} (hv : isVis c y = true) (hp : plain y = true) (hi : ixOf c.N y 0 = some i) : cName c y = .var i := by
  unfold cName
  rw [hp, hv]
  simp only [cond_true]
  rw [hi]
theorem snd_I (S : SndE g r) (x : XOk g c l X) (n : Nat) (tg it : Expr) : PI X tg it (rdI X.tx r l (cI n c (isTupE tg) it)) ∧ PI X tg it (rdI X.tx r l (lockII (cI n c (isTupE tg) it))) := by
  cases n with
  | zero => exact snd_val S x 0 tg it
  | succ n =>
    unfold cI
    split
    · -- a call by a name
      rename_i y p args pos
      cases hb : isB c y && plain y && args.all noStar with
      | false => exact snd_val S x n tg _
      | true =>
        simp only [cond_true]
        obtain ⟨hb1, hb2⟩ := Bool.and_eq_true_iff.mp hb
        obtain ⟨hb1, hb3⟩ := Bool.and_eq_true_iff.mp hb1
        have hg : isGlob c y = true := (Bool.and_eq_true_iff.mp hb1).1
        split
        · rename_i a
          have ha : noStar a = true := by simpa using hb2
          cases d : decide (y = sRange) with
          | true =>
            have e := of_decide_eq_true d
            subst e
            exact ⟨pi_rng1 x hg (S.e n c l X a x) ha, pi_rng1 x hg (S.e n c l X a x) ha⟩
          | false =>
            simp only [cond_false]
            cases d2 : decide (y = sEnum) && isTupE tg with
            | true =>
              obtain ⟨d3, d4⟩ := Bool.and_eq_true_iff.mp d2
              have e := of_decide_eq_true d3
              subst e
              cases tg with
              | Tuple elts kk tpos => exact ⟨pi_en x hg (S.e n c l X a x) ha, pi_en x hg (S.e n c l X a x) ha⟩
              | _ => cases d4
            | false => exact snd_val S x n tg _
        · rename_i a b
          have ha : noStar a = true ∧ noStar b = true := by simpa using hb2
          cases d : decide (y = sRange) with
          | true =>
            have e := of_decide_eq_true d
            subst e
            exact ⟨pi_rng2 x hg (S.e n c l X a x) (S.e n c l X b x) ha.1 ha.2, pi_rng2 x hg (S.e n c l X a x) (S.e n c l X b x) ha.1 ha.2⟩
          | false =>
            simp only [cond_false]
            cases d2 : decide (y = sZip) && isTupE tg with
            | true =>
              obtain ⟨d3, d4⟩ := Bool.and_eq_true_iff.mp d2
              have e := of_decide_eq_true d3
              subst e
              cases tg with
              | Tuple elts kk tpos => exact ⟨pi_zip2 x hg (S.e n c l X a x) (S.e n c l X b x) ha.1 ha.2, pi_zip2 x hg (S.e n c l X a x) (S.e n c l X b x) ha.1 ha.2⟩
              | _ => cases d4
            | false => exact snd_val S x n tg _
        · exact snd_val S x n tg _
    · -- d.items()
      rename_i d p1 m ap p
      cases hb : (decide (m = sItems) && isVis c d && plain d && isTupE tg && (ap.endLine == p.line)) with
      | false => exact snd_val S x n tg _
      | true =>
        simp only [cond_true]
        obtain ⟨hb, hb5⟩ := Bool.and_eq_true_iff.mp hb
        obtain ⟨hb, hb4⟩ := Bool.and_eq_true_iff.mp hb
        obtain ⟨hb, hb3⟩ := Bool.and_eq_true_iff.mp hb
        obtain ⟨hb1, hb2⟩ := Bool.and_eq_true_iff.mp hb
        have e := of_decide_eq_true hb1
        subst e
        split
        · rename_i i hi
          have he : PE X (.Name d p1) (rdE X.tx r l (.var i)) := by
            have := S.e 1 c l X (.Name d p1) x
            rw [show cE 1 c (.Name d p1) = cName c d from rfl, cName_var hb2 hb3 hi] at this
            exact this
          cases tg with
          | Tuple elts kk tpos => exact ⟨pi_it he hb5, pi_it he hb5⟩
          | _ => cases hb4
        · exact snd_val S x 0 tg _
    · exact snd_val S x n tg _
/-! ### comprehensions, by the syntax -/
theorem lock_pe {e : Expr} {t : II → TE} {it : II} (h : ∀ it', (it' = it ∨ it' = lockII it) → PE X e (t it')) : PE X e (fun σ H Q => t it σ H Q ∨ tLockE (t (lockII it)) σ H Q) := PE.or (h it (.inl rfl)) (pe_lock (h _ (.inr rfl)))
theorem rd_lc {tg : Tg} {it : II} {ifs : List IE} {elt : IE} {own : List Nat} (hsl : ∀ j ∈ tg.slots, j ∈ own) {ρ : L2.St} {H : Hp} {Q : VK} (h : rdE C (step g r) l (.lc tg it ifs elt own) ρ H Q) :
    tLc (rdI C r l it) (tg2 C.K tg) (rdTs C r l ifs) (rdE C r l elt) own ρ H Q ∨ tLockE (tLc (rdI C r l (lockII it)) (tg2 C.K tg) (rdTs C r l ifs) (rdE C r l elt) own) ρ H Q := by
  obtain ⟨ι, σ, h, sr, rs, t, h', e, k⟩ := h
  replace e : stepE g r l (.lc tg it ifs elt own) σ h = some (t, h') := e
  simp only [stepE] at e
  have plain : (match srcI r l it σ h with
      | some (src, h1) => match lcT r l src tg ifs elt (wipeS σ own) h1.length loopMax 0 (h1 ++ [.lst []]) with
        | some h2 => some (T.ref h1.length, h2)
        | none => none
      | none => none) = some (t, h') → tLc (rdI C r l it) (tg2 C.K tg) (rdTs C r l ifs) (rdE C r l elt) own ρ H Q := fun e => by
    split at e
    · rename_i src h1 e1
      split at e
      · rename_i h2 e2
        cases e
        exact lc_rd sr rs e1 e2 hsl k
      · cases e
    · cases e
  split at e
  · exact .inl (plain e)
  · rename_i a ea
    split at e
    · rename_i kvs hk
      split at e
      · rename_i src h1 e1
        split at e
        · rename_i h2 e2
          split at e
          · rename_i kvs' e3
            cases e
            obtain ⟨ad, hi⟩ := sr.addr hk
            obtain ⟨ws, ha, rk⟩ := sr.ok a ad _ hi hk
            refine .inr ⟨ad, .dK ws, ha, trivial, fun od => ?_⟩
            have toL : To C ι H ι (h.set a (.lk kvs)) (upd H ad (.frz od (.dK ws))) := To.lock sr hi ha rk
            refine lc_rd toL.sr (toL.repS sr rs) e1 e2 hsl fun ι' H' v to rv => ?_
            obtain ⟨q, toU⟩ := To.unlock sr hi ha to e3
            refine ⟨q, k _ _ _ toU ?_⟩
            cases rv with
            | ref z => exact .ref z
          · cases e
        · cases e
      · cases e
    · exact .inl (plain e)
theorem rd_lc2 {tg tg1 : Tg} {it it1 : II} {ifs ifs1 : List IE} {elt : IE} {own : List Nat} (hsl : ∀ j ∈ tg.slots, j ∈ own) {ρ : L2.St} {H : Hp} {Q : VK} (h : rdE C (step g r) l (.lc2 tg it ifs tg1 it1 ifs1 elt own) ρ H Q) :
    tLc2 (rdI C r l it) (tg2 C.K tg) (rdTs C r l ifs) (rdI C r l it1) (tg2 C.K tg1) (rdTs C r l ifs1) (rdE C r l elt) own tg1.slots ρ H Q := by
  obtain ⟨ι, σ, h, sr, rs, t, h', e, k⟩ := h
  replace e : stepE g r l (.lc2 tg it ifs tg1 it1 ifs1 elt own) σ h = some (t, h') := e
  simp only [stepE] at e
  split at e
  · rename_i src h1 e1
    split at e
    · rename_i h2 e2
      cases e
      exact lc2_rd sr rs e1 e2 hsl k
    · cases e
  · cases e
theorem rd_dc {tg : Tg} {it : II} {ifs : List IE} {ke ve : IE} {own : List Nat} (hsl : ∀ j ∈ tg.slots, j ∈ own) {ρ : L2.St} {H : Hp} {Q : VK} (h : rdE C (step g r) l (.dc tg it ifs ke ve own) ρ H Q) :
    tDcG (rdI C r l it) (tg2 C.K tg) (rdTs C r l ifs) (rdE C r l ke) (rdE C r l ve) (rPut C) own ρ H Q := by
  obtain ⟨ι, σ, h, sr, rs, t, h', e, k⟩ := h
  replace e : stepE g r l (.dc tg it ifs ke ve own) σ h = some (t, h') := e
  simp only [stepE] at e
  split at e
  · rename_i src h1 e1
    split at e
    · rename_i h2 e2
      cases e
      exact dc_rd sr rs e1 e2 hsl k
    · cases e
  · cases e
end
end Gn

set_option maxHeartbeats 2000000
/-! The engine is right, part 10b: places in tuples; tuples that are known; objects with slots. -/
namespace Gn
open PySem PySem.Spec PyProof.Rows L2

theorem bif_go {α : Type} {c : Bool} {a : Option α} {b : α} (h : (bif c then a else none) = some b) : c = true ∧ a = some b := by
  cases c with
  | true => exact ⟨rfl, h⟩
  | false => cases h
/-! ### a text's place among a constant's texts -/
theorem kidxT_ok {x : Str} : ∀ {ys : List Str} {j n : Nat}, kidxT x n ys = some j → ∃ m, j = n + m ∧ ys[m]? = some x ∧ (∀ i, i < m → ys[i]? ≠ some x)
  | [], _, _, e => by cases e
  | y :: ys, j, n, e => by
    simp only [kidxT] at e
    cases d : decide (y = x) with
    | true => rw [d] at e; cases e; exact ⟨0, rfl, by rw [of_decide_eq_true d]; rfl, fun i h => absurd h (Nat.not_lt_zero _)⟩
    | false =>
      rw [d] at e
      obtain ⟨m, e1, e2, e3⟩ := kidxT_ok e
      refine ⟨m + 1, by omega, by simpa using e2, fun i h => ?_⟩
      cases i with
      | zero =>
        intro z
        simp at z
        exact of_decide_eq_false d z
      | succ i => simpa using e3 i (by omega)
theorem mapS_ok {K : PySem.W.Frag} {H : Hp} {ι : List Addr} : ∀ {ts : List T} {ys : List Str} {vs : List V}, mapS ts = some ys → RepL K H ι ts vs → vs = ys.map V.str
  | [], _, _, e, r => by cases e; cases r; rfl
  | t :: ts, ys, _, e, r => by
    cases r with
    | cons r1 r2 =>
      cases t with
      | str x =>
        simp only [mapS] at e
        split at e
        · rename_i xs h
          cases e
          rw [mapS_ok h r2, r1.strE]; rfl
        · cases e
      | _ => cases e
section
variable {C : Tx} {g : Gt} {r : Rec} {l : Nat} {c : SC} {X : Cx}
abbrev rTI (K : PySem.W.Frag) : V → List V → Hp → VK → Prop := fun x xs H Q => ∃ p, ∃ ys : List Str, ∃ z j, x = .ref p ∧ xs = [.str z] ∧ SqT K H p (ys.map V.str) ∧ ys[j]? = some z ∧ (∀ m, m < j → ys[m]? ≠ some z) ∧ Q (.int (j : Nat)) H
theorem snd_kidx (x : XOk g c l X) {gn : Str} {gp ap p : Pos} {a : Expr} {ia : IE} {k : Nat} (hg : isGlob c gn = true) (hp : plain gn = true) (hk : find c.gl gn = some (.con k)) (ha : PE X a (rdE X.tx r l ia)) (hn : noStar a = true) (hline : (ap.endLine == p.line) = true) :
    PE X (.Call (.Attribute (.Name gn gp) sIndex ap) [a] [] p) (rdE X.tx (step g r) l (.kidx k ia)) := by
  obtain ⟨t, u, v, e1, e2, e3, e4, e5⟩ := x.gl gn _ hk
  have hno : ([a] : List Expr).all noStar = true := by simp [hn]
  refine peW (pe_bm PySem.F.plainAttrs_tuple PySem.F.slot_tuple_index PySem.F.type_tuple_index mt_tup_index (pe_glob (x.gl_ hg) e2 e3 (plain_ok hp).1) (pa_cons ha pa_nil (star_cons hn)) (base_ok rfl) (few_ok hno (by simp)) hline (star_cons hn) rfl) ?_
  intro ρ H Q ⟨ι, σ, h, sr, rs, t', h', e, kk⟩
  replace e : stepE g r l (.kidx k ia) σ h = some (t', h') := e
  simp only [stepE] at e
  split at e
  · rename_i z h1 ea
    split at e
    · rename_i ts hc
      split at e
      · rename_i ys hys
        split at e
        · rename_i j hj
          cases e
          rw [hc] at e1
          cases e1
          obtain ⟨m, em, h3, h4⟩ := kidxT_ok hj
          rw [Nat.zero_add] at em
          subst em
          obtain ⟨ad, xs, rfl, st, rl⟩ := (e4 (fun _ => none) []).tupE
          obtain ⟨o, ho, hd⟩ := e5 ad rfl
          refine ⟨Or.inr (Or.inl ⟨rfl, o, ho, ?_, hd⟩), ι, σ, h, sr, rs, _, _, ea, fun ι1 H1 v1 to1 r1 => ?_⟩
          · rcases st with (st | ⟨_, st⟩) | ⟨o', its, n, st, hcl, _⟩
            · cases st
            · cases st
            · rw [ho] at st; cases st; exact hcl
          · obtain ⟨ad', xs', ead, st', rl'⟩ := (e4 H1 ι1).tupE
            cases ead
            have := mapS_ok hys rl'
            subst this
            exact ⟨ad, ys, z, j, rfl, by rw [r1.strE], st', h3, h4, kk _ _ _ to1 (.int _)⟩
        · cases e
      · cases e
    · cases e
  · cases e

/-! ### a known tuple's places -/
theorem intsAre_of : ∀ {ns : List Int} {us : List Value}, Vals (ns.map V.int) us → IntsAre us ns
  | [], _, .nil => .nil
  | n :: ns, _, .cons r t => by
    obtain ⟨k, rfl⟩ := r
    exact .cons n k (intsAre_of t)
theorem mt_tup_indexI : MtR X "tuple.index" (fun x xs H Q => ∃ p, ∃ ns : List Int, ∃ i, ∃ k j : Nat, x = .ref p ∧ (xs = [.int i] ∧ k = 0 ∨ xs = [.int i, .int (k : Nat)]) ∧ SqT X.K H p (ns.map V.int) ∧ ns[j]? = some i ∧ k ≤ j ∧ (∀ m, k ≤ m → m < j → ns[m]? ≠ some i) ∧ Q (.int (j : Nat)) H) := by
  intro pins s σ H x xs v us Q I rx rs h
  obtain ⟨p, ns, i, k, j, rfl, hxs, hq, hy, hkj, hno, q⟩ := h
  cases rx
  obtain ⟨its, r, pl, hz⟩ := I.tuple hq
  obtain ⟨⟨cls, dd, dt, sl⟩, ho, hc, n, hd⟩ := pl
  simp only at hc hd
  subst hc
  subst hd
  have hl : its.length = ns.length := by rw [← r.length, List.length_map]
  have hj : j < its.toArray.size := by rw [List.size_toArray, hl]; exact (List.getElem?_eq_some_iff.mp hy).1
  have hia := intsAre_of r
  have he : ∀ (A : Around) (t : Tok), PySem.SeqAt.ItemsEq A s its ns (.int i t) i := fun A t => .ints hia
  have hit : (fun j => decide (ns[j]? = some i)) j = true := by simp [hy]
  have eqs : ∀ (A : Around) (t : Tok) (m : Nat) (hm : m < its.toArray.size), PySem.SeqAt.EqAt A s its.toArray[m] (.int i t) ((fun j => decide (ns[j]? = some i)) m) := fun A t m hm => by
    have h1 : m < its.length := by simpa using hm
    have h2 : m < ns.length := by omega
    simpa [List.getElem?_eq_getElem h2] using (he A t).2 m h1 h2
  have fin : ∀ tk, Inv X pins σ H { s with toks := tk } := fun tk => I.tok tk
  rcases hxs with ⟨rfl, rfl⟩ | rfl
  · obtain ⟨u, rfl, t, rfl⟩ := vals1 rs
    refine call_meets PySem.F.slot_tuple_index ⟨_, ho, rfl⟩ PySem.F.entry_tuple_index (PySem.F.args_tuple_index_2 _ _)
      (PySem.SeqAt.tuple_index2_found p its.toArray n dd sl (.int i t) (fun j => decide (ns[j]? = some i)) j hj (Nat.zero_le _) hj hit ?_) ⟨ho, fun m hm => eqs _ t m hm, ⟨.int (j : Nat), H, fin _, ⟨_, rfl⟩, q⟩⟩
    intro m hm _ hlt
    simpa using hno m (Nat.zero_le _) hlt
  · obtain ⟨u, u2, rfl, ⟨t, rfl⟩, ⟨t2, rfl⟩⟩ := vals2 rs
    have hs : PySem.SeqAt.searchFrom (k : Int) its.toArray.size = k := PySem.SeqAt.searchFrom_nat _ _
    refine call_meets PySem.F.slot_tuple_index ⟨_, ho, rfl⟩ PySem.F.entry_tuple_index (PySem.F.args_tuple_index_3 _ _ _)
      (PySem.SeqAt.tuple_index3_found p its.toArray n dd sl (.int i t) (fun j => decide (ns[j]? = some i)) (k : Int) t2 j hj (by rw [hs]; exact hkj) hj hit ?_) ⟨ho, fun m hm => eqs _ t m hm, ⟨.int (j : Nat), H, fin _, ⟨_, rfl⟩, q⟩⟩
    intro m hm h1 hlt
    rw [hs] at h1
    simpa using hno m h1 hlt
/-- a tuple that is known to bear no dict -/
def tyZ (x : V) (H : Hp) : Prop := ∃ p o xs, x = .ref p ∧ H p = some (.frz o (.tup xs)) ∧ o.dict = none
def tBMZ (r : V → List V → Hp → VK → Prop) (to : TE) (t : TA) : TE := fun σ H Q => to σ H fun x H1 => tyZ x H1 ∧ t σ H1 fun xs H2 => r x xs H2 Q
theorem tyZ_is {pins : List (Addr × Obj)} {σ : L2.St} {H : Hp} {s : Shared} {x : V} {v : Value} (I : Inv X pins σ H s) (r : RelV x v) (ty : tyZ x H) :
    s.TypeIs v "tuple" ∧ ∀ a, v = .ref a → ∃ ob, s.heap.get? a = some ob ∧ ob.dict = none := by
  obtain ⟨p, o, xs, rfl, h, hd⟩ := ty
  cases r
  obtain ⟨e, _, its, _, o', e', hc, _⟩ := I.hok p _ h
  rw [e] at e'
  cases e'
  exact ⟨⟨o, e, hc⟩, fun a z => by cases z; exact ⟨o, e, hd⟩⟩
theorem pe_bmZ {o e : Expr} {es : List Expr} {to : TE} {t : TA} {name : Str} {apos cpos : Pos} {id : String} {r : V → List V → Hp → VK → Prop} (pa : PlainAttrs "tuple") (slot : Slot "tuple" name id) (hty : typeOf (.builtin id) = pure (.type "method_descriptor")) (hm : MtR X id r) (ho : PE X o to) (ha : PA X (e :: es) t)
    (hbase : attributeBase o name X.env (eval o X.env) = eval o X.env)
    (hfew : ((backTo cpos (starEach (e :: es) X.env)).all (fun x => !x.1) && (backToKw cpos (keywordEach [] X.env)).all (fun x => x.1.isSome)
      && decide ((e :: es).length + ([] : List Keyword).length + (if ([] : List Keyword).isEmpty then 0 else 1) < 30)) = true)
    (hline : (apos.endLine == cpos.line) = true) (hs : starEach (e :: es) X.env = (false, eval e X.env) :: starEach es X.env) (hplain : (backTo cpos (starEach es X.env)).any (·.1) = false) :
    PE X (.Call (.Attribute o name apos) (e :: es) [] cpos) (tBMZ r to t) := by
  refine ⟨fun pins s σ H Q I h => ?_⟩
  refine wpAny_Call_method_late hbase hfew hline rfl (thn (ho.run pins s σ H _ I h) fun v s1 ⟨x, H1, I1, r1, ty, q1⟩ => ?_)
  obtain ⟨h1, h2⟩ := tyZ_is I1 r1 ty
  refine ⟨"tuple", id, pa, slot, hty, h1, h2, ?_⟩
  have hA := ha.run cpos pins s1 σ H1 _ I1 q1
  rw [hs] at hA ⊢
  refine Calls.callWith_builtin (by show (false || (backTo cpos (starEach es X.env)).any (·.1)) = false; rw [hplain] <;> rfl) (Calls.evalArgs_plain ?_)
  exact thn hA fun us s2 ⟨vs, H2, I2, r2, q2⟩ => hm pins s2 σ H2 x vs v us Q I2 r1 r2 q2
theorem zidxT_ok {i : Int} : ∀ {ns : List Int} {j n : Nat}, zidxT i n ns = some j → ∃ m, j = n + m ∧ ns[m]? = some i ∧ (∀ q, q < m → ns[q]? ≠ some i)
  | [], _, _, e => by cases e
  | y :: ys, j, n, e => by
    simp only [zidxT] at e
    cases d : decide (y = i) with
    | true => rw [d] at e; cases e; exact ⟨0, rfl, by rw [of_decide_eq_true d]; rfl, fun i h => absurd h (Nat.not_lt_zero _)⟩
    | false =>
      rw [d] at e
      obtain ⟨m, e1, e2, e3⟩ := zidxT_ok e
      refine ⟨m + 1, by omega, by simpa using e2, fun i h => ?_⟩
      cases i with
      | zero =>
        intro z
        simp at z
        exact of_decide_eq_false d z
      | succ i => simpa using e3 i (by omega)
theorem snd_zidx (x : XOk g c l X) {o e : Expr} {es : List Expr} {io : IE} {ia : List IE} {ap p : Pos} (ho : PE X o (rdE X.tx r l io)) (ha : PA X (e :: es) (rdA X.tx r l ia)) (hn : (e :: es).all noStar = true) (hs : noSup o = true) (hl : (e :: es).length < 20) (hline : (ap.endLine == p.line) = true) :
    PE X (.Call (.Attribute o sIndex ap) (e :: es) [] p) (rdE X.tx (step g r) l (.zidx io ia)) := by
  have hst := star_cons (env := X.env) (es := es) (e := e) (by rw [List.all_cons, Bool.and_eq_true] at hn; exact hn.1)
  have hpl : (backTo p (starEach es X.env)).any (·.1) = false := star_plain (by rw [List.all_cons, Bool.and_eq_true] at hn; exact hn.2)
  refine peW (pe_bmZ PySem.F.plainAttrs_tuple PySem.F.slot_tuple_index PySem.F.type_tuple_index mt_tup_indexI ho ha (base_ok hs) (few_ok hn hl) hline hst hpl) ?_
  intro ρ H Q ⟨ι, σ, h, sr, rs, t', h', e, kk⟩
  replace e : stepE g r l (.zidx io ia) σ h = some (t', h') := e
  simp only [stepE] at e
  split at e
  · rename_i ns h1 eo
    refine ⟨ι, σ, h, sr, rs, _, _, eo, fun ι1 H1 v1 to1 r1 => ?_⟩
    cases r1 with
    | @tz ad ob _ hf hd =>
      refine ⟨⟨ad, ob, _, rfl, hf, hd⟩, ι1, σ, h1, to1.sr, to1.repS sr rs, ?_⟩
      split at e
      · rename_i i h2 ea
        split at e
        · rename_i j hj
          cases e
          refine ⟨_, _, ea, fun ι2 H2 vs to2 r2 => ?_⟩
          obtain ⟨m, em, h3, h4⟩ := zidxT_ok hj
          rw [Nat.zero_add] at em
          subst em
          obtain ⟨w, rfl, rw'⟩ := repL1 r2
          have hf2 := to2.frz _ _ _ hf
          exact ⟨ad, ns, i, 0, j, rfl, .inl ⟨by rw [rw'.intE], rfl⟩, .inl (.inr ⟨_, hf2⟩), h3, Nat.zero_le _, fun m _ hm => h4 m hm, kk _ _ _ (to1.trans to2) (.int _)⟩
        · cases e
      · rename_i i k h2 ea
        obtain ⟨hk, e⟩ := bif_go e
        split at e
        · rename_i j hj
          cases e
          refine ⟨_, _, ea, fun ι2 H2 vs to2 r2 => ?_⟩
          obtain ⟨m, em, h3, h4⟩ := zidxT_ok hj
          subst em
          obtain ⟨w, w2, rfl, rw', rw2⟩ := repL2 r2
          have hf2 := to2.frz _ _ _ hf
          rw [List.getElem?_drop] at h3
          refine ⟨ad, ns, i, k, k + m, rfl, .inr (by rw [rw'.intE, rw2.intE]; rfl), .inl (.inr ⟨_, hf2⟩), h3, Nat.le_add_right _ _, fun q h5 h6 => ?_, kk _ _ _ (to1.trans to2) (.int _)⟩
          have := h4 (q - k) (by omega)
          rw [List.getElem?_drop] at this
          rwa [show k + (q - k) = q by omega] at this
        · cases e
      · cases e
  · cases e
/-- tuple(a list): the new tuple is known -/
theorem call_tupleZ : CallR X (.type "tuple") (fun xs H Q => ∃ p ys, xs = [.ref p] ∧ SqL X.K H p ys ∧ ∀ l od, H l = none → od.dict = none → Q (.ref l) (upd H l (.frz od (.tup ys)))) := by
  intro pins s σ H xs us Q I r h
  obtain ⟨p, ys, rfl, hq, q⟩ := h
  obtain ⟨u, rfl, rx⟩ := vals1 r
  cases rx
  obtain ⟨its, r', pl, hz⟩ := I.list hq
  have hlen := r'.length
  refine call_tuple_list pl.isList (fun h' kp => ?_) (by simp only [List.size_toArray] <;> omega)
  have I1 : Inv X pins σ H { s with heap := h' } := I.kept (t' := s.toks) kp
  have I2 : Inv X pins σ (upd H h'.objs.size (.frz { cls := .type "tuple", data := .seq its.toArray } (.tup ys))) { s with heap := h'.push { cls := .type "tuple", data := .seq its.toArray } } :=
    I1.laid (t' := s.toks) (fun b o e => Heap.get?_push_of_some _ e) (Nat.le_refl _) (show ObjOk X.prog X.w _ _ _ (.frz _ (.tup ys)) from ⟨Heap.get?_push_size _ rfl, hz, its, r', IsTup.new _ _⟩)
  exact ⟨.ref h'.objs.size, _, I2, rfl, q _ _ (I1.hok.fresh (Nat.le_refl _)) rfl⟩
theorem To.any {K : PySem.W.Frag} {H : Hp} {ι : List Addr} {h : Hi} (s : SR C ι h H) {p : Addr} {o : HO} (hp : H p = none) : To C ι H ι h (upd H p o) := by
  have hn := s.fresh_out hp
  refine ⟨⟨[], by simp, by simp⟩, fun b u e _ => upd_keep hp b u e, fun b _ _ e => upd_keep hp b _ e, ⟨s.len, s.nd, fun i a o' e1 e2 => ?_⟩⟩
  have ha : a ∈ ι := List.mem_of_getElem? e1
  exact (s.ok i a o' e1 e2).at_ (upd_ne fun z => hn (z ▸ ha)) (fun b ps e => upd_keep hp b _ e) (keepT_upd hp) fun _ _ e => e
theorem snd_tupZ (x : XOk g c l X) {e : Expr} {ia : List IE} {io : IE} {p pos : Pos} (hg : isGlob c "tuple" = true) (he : PE X e (rdE X.tx r l io)) (hn : noStar e = true) :
    PE X (.Call (.Name "tuple" p) [e] [] pos) (rdE X.tx (step g r) l (.tupZ io)) := by
  refine peW (pe_callTy call_tupleZ (x.gl_ hg) (x.bmg _ (by decide +kernel)) (by decide +kernel) (pa_cons he pa_nil (star_cons hn)) (by decide +kernel) (by decide +kernel) (star_cons hn) rfl) ?_
  intro ρ H Q ⟨ι, σ, h, sr, rs, t', h', e, kk⟩
  replace e : stepE g r l (.tupZ io) σ h = some (t', h') := e
  simp only [stepE] at e
  split at e
  · rename_i i h1 eo
    split at e
    · rename_i ts hl
      split at e
      · rename_i is his
        cases e
        refine ⟨ι, σ, h, sr, rs, _, _, eo, fun ι1 H1 v1 to1 r1 => ?_⟩
        obtain ⟨a, xs, rfl, hi', ha, rl⟩ := to1.sr.lst r1 hl
        have := mapI_ok his rl
        subst this
        refine ⟨a, _, rfl, sqL_of ha, fun q od hq hd => kk _ _ _ (to1.trans (To.any (K := X.K) to1.sr hq)) (.tz upd_same hd)⟩
      · cases e
    · cases e
  · cases e
end
end Gn

/-! The engine is right, part 10c: objects with slots: fields, stores, methods, new objects. -/
namespace Gn
open PySem PySem.Spec PyProof.Rows L2

section
variable {K : PySem.W.Frag} {C : Tx} {H : Hp} {ι : List Addr} {h : Hi} {g : Gt} {r : Rec} {l : Nat} {c : SC} {X : Cx}
theorem upd_id {a : Addr} {o : HO} (e : H a = some o) : upd H a o = H := by
  funext b
  by_cases hb : b = a
  · rw [hb, upd_same, e]
  · rw [upd_ne hb]
theorem SR.obj (s : SR C ι h H) {i : Nat} {d : Str} {fs : List (Option T)} {v : V} (q : Rep C.K H ι (.ref i) v) (e : h[i]? = some (.obj d fs)) :
    ∃ a A dx ws, v = .ref a ∧ ι[i]? = some a ∧ C.mg d = some (.ref A) ∧ H a = some (SlX.SlO a A dx ws) ∧ H dx = some (.xd []) ∧ dx ≠ a ∧ RepO C.K H ι fs ws := by
  cases q with
  | ref hi =>
    obtain ⟨A, dx, ws, q⟩ := s.ok i _ _ hi e
    exact ⟨_, A, dx, ws, rfl, hi, q⟩
theorem isO_ok {x : T} {d : Str} (e : isO h x d = true) : ∃ i fs, x = .ref i ∧ h[i]? = some (.obj d fs) := by
  unfold isO at e
  split at e
  · rename_i r
    split at e
    · rename_i d' fs hl
      have := of_decide_eq_true e
      subst this
      exact ⟨r, fs, rfl, hl⟩
    · cases e
  · cases e
theorem getO_ok {x t : T} {d : Str} {k : Nat} (e : getO h d x k = some t) : ∃ i fs, x = .ref i ∧ h[i]? = some (.obj d fs) ∧ fs[k]? = some (some t) := by
  unfold getO at e
  split at e
  · rename_i r
    split at e
    · rename_i d' fs hl
      obtain ⟨hd, e1⟩ := bif_go e
      clear e
      have := of_decide_eq_true hd
      subst this
      split at e1
      · rename_i u hu
        cases e1
        exact ⟨r, fs, rfl, hl, hu⟩
      · cases e1
    · cases e
  · cases e
theorem setO_ok {x t : T} {d : Str} {k : Nat} {h' : Hi} (e : setO h d x k t = some h') : ∃ i fs, x = .ref i ∧ h[i]? = some (.obj d fs) ∧ h' = h.set i (.obj d (putO k t fs)) := by
  unfold setO at e
  split at e
  · rename_i r
    split at e
    · rename_i d' fs hl
      obtain ⟨hd, e1⟩ := bif_go e
      clear e
      have := of_decide_eq_true hd
      subst this
      cases e1
      exact ⟨r, fs, rfl, hl, rfl⟩
    · cases e
  · cases e
theorem putO_ne {j k : Nat} {t u : T} {fs : List (Option T)} (hj : j ≠ k) (e : (putO k t fs)[j]? = some (some u)) : fs[j]? = some (some u) := by
  unfold putO at e
  rw [List.getElem?_set_ne (Ne.symm hj)] at e
  by_cases hl : j < fs.length
  · rwa [List.getElem?_append_left hl] at e
  · rw [List.getElem?_append_right (by omega), List.getElem?_replicate] at e
    split at e <;> cases e
theorem RepO.put {fs : List (Option T)} {ws : List (Option V)} (q : RepO K H ι fs ws) (k : Nat) {t : T} {v : V} (r : Rep K H ι t v) : RepO K H ι (putO k t fs) (SlX.putS k v ws) := by
  intro j u e
  by_cases hj : j = k
  · subst hj
    unfold putO at e
    rw [List.getElem?_set_self (by simp only [List.length_append, List.length_replicate]; omega)] at e
    cases e
    exact ⟨v, SlX.putS_get _ _ _, r⟩
  · obtain ⟨w, e1, r1⟩ := q j u (putO_ne hj e)
    exact ⟨w, (SlX.putS_ne hj).mpr e1, r1⟩
/-- a slot is stored -/
theorem To.slot (s : SR C ι h H) {i k : Nat} {a A dx : Addr} {d : Str} {fs : List (Option T)} {ws : List (Option V)} {t : T} {v : V} (hi : ι[i]? = some a) (hm : C.mg d = some (.ref A)) (ha : H a = some (SlX.SlO a A dx ws)) (hd : H dx = some (.xd [])) (ne : dx ≠ a) (q : RepO C.K H ι fs ws) (rv : Rep C.K H ι t v) :
    To C ι H ι (h.set i (.obj d (putO k t fs))) (SlX.slH H a A dx (SlX.putS k v ws)) := by
  have e : SlX.slH H a A dx (SlX.putS k v ws) = upd H a (SlX.SlO a A dx (SlX.putS k v ws)) := by
    unfold SlX.slH
    rw [upd_id hd]
  rw [e]
  have nf : ∀ ob u, H a ≠ some (.frz ob u) := fun ob u z => by
    rw [ha] at z
    unfold SlX.SlO at z
    cases z
  have kt := s.keepT_set (o := SlX.SlO a A dx (SlX.putS k v ws)) (List.mem_of_getElem? hi) nf
  exact To.set s hi ⟨A, dx, _, hm, upd_same, by rw [upd_ne ne]; exact hd, ne, (q.put k rv).at_ kt fun _ _ e => e⟩ kt
/-! ### fields -/
theorem snd_fld (x : XOk g c l X) {o : Expr} {f : Str} {q : Str × Nat} {io : IE} {pos : Pos} (hk : find c.sl f = some q) (he : PE X o (rdE X.tx r l io)) (hs : noSup o = true) : PE X (.Attribute o f pos) (rdE X.tx (step g r) l (.fld q.1 io q.2)) := by
  obtain ⟨A, p, hA, hc, h1⟩ := x.fl f q hk
  refine peW (SlX.pe_sl he (base_ok hs)) fun ρ H Q ⟨ι, σ, h, sr, rs, t, h', e, k⟩ => ?_
  replace e : stepE g r l (.fld q.1 io q.2) σ h = some (t, h') := e
  simp only [stepE] at e
  split at e
  · rename_i y h2 eo
    split at e
    · rename_i u hu
      cases e
      obtain ⟨i, fs, rfl, hl, hf⟩ := getO_ok hu
      refine ⟨ι, σ, h, sr, rs, _, _, eo, fun ι1 H1 v1 to1 r1 => ?_⟩
      obtain ⟨a, A', dx, ws, rfl, hi, hm, ha, hd, ne, ro⟩ := to1.sr.obj r1 hl
      have hm' : X.tx.mg q.1 = some (.ref A) := hA
      rw [hm'] at hm
      cases hm
      obtain ⟨w, ew, rw'⟩ := ro _ _ hf
      exact ⟨a, A, dx, p, ws, _, w, rfl, .inr ⟨ha, hd⟩, hc, h1, ew, k _ _ _ to1 rw'⟩
    · cases e
  · cases e
abbrev rSetF (C : Tx) (d : Str) (k : Nat) : V → V → Hp → (Hp → Prop) → Prop := fun o v H Q => ∃ ι h x z h', SR C ι h H ∧ Rep C.K H ι x o ∧ Rep C.K H ι z v ∧ setO h d x k z = some h' ∧ ∀ H', To C ι H ι h' H' → Q H'
def gFld (C : Tx) (r : Rec) (l : Nat) (d : Str) (o : IE) (k : Nat) : TG := fun v σ H Q => rdE C r l o σ H fun x H1 => rSetF C d k x v H1 fun H2 => Q σ H2
theorem pg_fld (x : XOk g c l X) {o : Expr} {f : Str} {q : Str × Nat} {io : IE} {pos : Pos} (hk : find c.sl f = some q) (he : PE X o (rdE X.tx r l io)) : PG X (.Attribute o f pos) (gFld X.tx r l q.1 io q.2) := by
  obtain ⟨A, p, hA, hc, h1⟩ := x.fl f q hk
  refine ⟨fun pins s σ H v u Q I rv hq => ?_⟩
  rw [assign_Attribute]
  refine wpAny_bind (wpAny_holding (thn (he.run pins s σ H _ I hq) fun ov s1 ⟨y, H1, I1, r1, q1⟩ => ?_))
  obtain ⟨ι, h, x', z, h', sr, rx, rz, e, kk⟩ := q1
  obtain ⟨i, fs, rfl, hl, rfl⟩ := setO_ok e
  obtain ⟨a, A', dx, ws, rfl, hi, hm, ha, hd, ne, ro⟩ := sr.obj rx hl
  have hm' : X.tx.mg q.1 = some (.ref A) := hA
  rw [hm'] at hm
  cases hm
  obtain rfl : ov = Value.ref a := r1
  refine wpAny_bind (wpAny_standAt (wpAny_bind (wpAny_holding (SlX.setslot_ok I1 (.inr ⟨ha, hd⟩) hc h1 rv fun s3 I3 => ?_))))
  exact wpAny_release ⟨σ, _, I3, kk _ (To.slot sr hi hA ha hd ne ro rz)⟩
/-! ### methods -/
theorem meth_eq {o : Expr} {m : Str} {apos pos : Pos} {args : List Expr} {env : Env} (hbase : attributeBase o m env (eval o env) = eval o env)
    (hfew : ((backTo pos (starEach args env)).all (fun x => !x.1) && (backToKw pos (keywordEach [] env)).all (fun x => x.1.isSome)
      && decide (args.length + ([] : List Keyword).length + (if ([] : List Keyword).isEmpty then 0 else 1) < 30)) = true) (hline : (apos.endLine == pos.line) = true) :
    eval (.Call (.Attribute o m apos) args [] pos) env = (do
      let ov ← eval o env
      standAt apos.atName
      let (f, first) ← holding [ov] (getMethod ov m (do return (← importBound o env).getD true))
      callWith pos f first (backTo pos (starEach args env)) (backToKw pos (keywordEach [] env))) := by
  rw [arm_eval_Call, hbase]
  have hform : methodCallForm (args.length + ([] : List Keyword).length) (backTo pos (starEach args env)) (backToKw pos (keywordEach [] env)) = true := hfew
  have hpos : methodCallPos true o env apos pos = pure pos := by unfold methodCallPos; simp [hline]
  unfold methodCall
  rw [hform, hpos]
  rfl
theorem cm_beq {d : Str} {x : T} {a b : Nat} (e : (isO h x d && Nat.beq a b) = true) : isO h x d = true ∧ a = b := by
  obtain ⟨h1, h2⟩ := Bool.and_eq_true_iff.mp e
  exact ⟨h1, Nat.eq_of_beq_eq_true h2⟩
theorem snd_cmth {n : Nat} (x : XOk g c l X) {o e : Expr} {es : List Expr} {m : Str} {q : Str × Nat} {io : IE} {ia : List IE} {ap p : Pos} (hk : find c.ms m = some q) (ho : PE X o (rdE X.tx (run g n) l io)) (ha : PA X (e :: es) (rdA X.tx (run g n) l ia)) (hn : (e :: es).all noStar = true) (hs : noSup o = true) (hl : (e :: es).length < 20) (hline : (ap.endLine == p.line) = true) :
    PE X (.Call (.Attribute o m ap) (e :: es) [] p) (rdE X.tx (step g (run g n)) l (.cmth q.1 q.2 io ia)) := by
  cases l with
  | zero => exact peN fun _ _ _ => rd_none fun _ _ => rfl
  | succ l =>
    obtain ⟨A, f, fi, hA, hc, hme, hf, hF⟩ := x.mt m q hk
    have hst := star_cons (env := X.env) (es := es) (e := e) (by rw [List.all_cons, Bool.and_eq_true] at hn; exact hn.1)
    have hpl : (backTo p (starEach es X.env)).any (·.1) = false := star_plain (by rw [List.all_cons, Bool.and_eq_true] at hn; exact hn.2)
    refine peW (SlX.pe_methSl (E := C8.E0) ho hc hme (hF l (Nat.lt_succ_self _)) x.room C8.pass0 ha hst hpl (meth_eq (base_ok hs) (few_ok hn hl) hline)) fun ρ H Q ⟨ι, σ, h, sr, rs, t, h', e, k⟩ => ?_
    replace e : stepE g (run g n) (l + 1) (.cmth q.1 q.2 io ia) σ h = some (t, h') := e
    simp only [stepE] at e
    split at e
    · rename_i y h1 eo
      split at e
      · rename_i ts h2 ea
        rw [hf] at e
        simp only at e
        obtain ⟨hb, e⟩ := bif_go e
        obtain ⟨hb1, hb2⟩ := cm_beq hb
        obtain ⟨i, fs, rfl, hl⟩ := isO_ok hb1
        refine ⟨ι, σ, h, sr, rs, _, _, eo, fun ι1 H1 v1 to1 r1 => ?_⟩
        obtain ⟨a, A', dx, ws, rfl, hi, hm, ha, hd, ne, ro⟩ := to1.sr.obj r1 hl
        have hm' : X.tx.mg q.1 = some (.ref A) := hA
        rw [hm'] at hm
        cases hm
        refine ⟨a, dx, ws, rfl, .inr ⟨ha, hd⟩, ι1, σ, h1, to1.sr, to1.repS sr rs, ts, h2, ea, fun ι2 H2 vs to2 r2 => ?_⟩
        exact ⟨n, ι2, h2, _, t, h', to2.sr, .cons (to2.rep to1.sr r1) r2, by simpa using hb2, e, fun ι3 H3 v3 to3 r3 => k _ _ _ ((to1.trans to2).trans to3) r3⟩
      · cases e
    · cases e
theorem snd_cmth0 {n : Nat} (x : XOk g c l X) {o : Expr} {m : Str} {q : Str × Nat} {io : IE} {ap p : Pos} (hk : find c.ms m = some q) (ho : PE X o (rdE X.tx (run g n) l io)) (hs : noSup o = true) (hline : (ap.endLine == p.line) = true) :
    PE X (.Call (.Attribute o m ap) [] [] p) (rdE X.tx (step g (run g n)) l (.cmth0 q.1 q.2 io)) := by
  cases l with
  | zero => exact peN fun _ _ _ => rd_none fun _ _ => rfl
  | succ l =>
    obtain ⟨A, f, fi, hA, hc, hme, hf, hF⟩ := x.mt m q hk
    refine peW (SlX.pe_methSl0 (E := C8.E0) ho hc hme (hF l (Nat.lt_succ_self _)) x.room C8.pass0 (meth_eq (base_ok hs) (few_ok (by rfl) (by simp)) hline)) fun ρ H Q ⟨ι, σ, h, sr, rs, t, h', e, k⟩ => ?_
    replace e : stepE g (run g n) (l + 1) (.cmth0 q.1 q.2 io) σ h = some (t, h') := e
    simp only [stepE] at e
    split at e
    · rename_i y h1 eo
      rw [hf] at e
      simp only at e
      obtain ⟨hb, e⟩ := bif_go e
      obtain ⟨hb1, hb2⟩ := cm_beq hb
      obtain ⟨i, fs, rfl, hl⟩ := isO_ok hb1
      refine ⟨ι, σ, h, sr, rs, _, _, eo, fun ι1 H1 v1 to1 r1 => ?_⟩
      obtain ⟨a, A', dx, ws, rfl, hi, hm, ha, hd, ne, ro⟩ := to1.sr.obj r1 hl
      have hm' : X.tx.mg q.1 = some (.ref A) := hA
      rw [hm'] at hm
      cases hm
      exact ⟨a, dx, ws, rfl, .inr ⟨ha, hd⟩, n, ι1, h1, _, t, h', to1.sr, .cons r1 .nil, by simpa using hb2, e, fun ι3 H3 v3 to3 r3 => k _ _ _ (to1.trans to3) r3⟩
    · cases e
/-! ### new objects -/
theorem slH_new {x dx A : Addr} (hne : dx ≠ x) : SlX.slH (upd (upd H dx (.own x)) x (.ins A dx [])) x A dx [] = upd (upd H dx (.xd [])) x (SlX.SlO x A dx []) := by
  unfold SlX.slH
  funext b
  by_cases h1 : b = x
  · rw [h1, upd_same, upd_same]
  · rw [upd_ne h1, upd_ne h1]
    by_cases h2 : b = dx
    · rw [h2, upd_same, upd_same]
    · rw [upd_ne h2, upd_ne h2, upd_ne h1, upd_ne h2]
theorem To.obj (s : SR C ι h H) {x dx A : Addr} {d : Str} (hx : H x = none) (hd : H dx = none) (hne : dx ≠ x) (hm : C.mg d = some (.ref A)) : To C ι H (ι ++ [x]) (h ++ [.obj d []]) (upd (upd H dx (.xd [])) x (SlX.SlO x A dx [])) := by
  have t1 : To C ι H ι h (upd H dx (.xd [])) := To.any (K := C.K) s hd
  have hx' : upd H dx (.xd []) x = none := by rw [upd_ne (Ne.symm hne)]; exact hx
  exact t1.trans (To.new t1.sr hx' ⟨A, dx, [], hm, upd_same, by rw [upd_ne hne, upd_same], hne, fun i t e => by simp at e⟩)
theorem snd_newO {n : Nat} (x : XOk g c l X) {y : Str} {p pos : Pos} {f : Nat} {e : Expr} {es : List Expr} {ia : List IE} (hg : isGlob c y = true) (hp : plain y = true) (hb : find c.gl y = some (.cls f)) (ha : PA X (e :: es) (rdA X.tx (run g n) l ia)) (hn : (e :: es).all noStar = true) :
    PE X (.Call (.Name y p) (e :: es) [] pos) (rdE X.tx (step g (run g n)) l (.newO y f ia)) := by
  match l, x, ha with
  | 0, x, ha => exact peN fun _ _ _ => rd_none fun _ _ => rfl
  | 1, x, ha => exact peN fun _ _ _ => rd_none fun _ _ => rfl
  | l + 2, x, ha =>
    obtain ⟨A, fa, fi, hA, hM, hf, hF⟩ := x.gl y _ hb
    rw [List.all_cons, Bool.and_eq_true] at hn
    refine peW (StX.pe_makeR (E := C8.E0) hM (hF l (by omega)) x.room (x.gl_ hg) hA C8.pass0 ha (plain_ok hp).1 (star_cons hn.1) (star_plain hn.2)) fun ρ H Q ⟨ι, σ, h, sr, rs, t, h', e, k⟩ => ?_
    replace e : stepE g (run g n) (l + 2) (.newO y f ia) σ h = some (t, h') := e
    simp only [stepE] at e
    split at e
    · rename_i ts h1 ea
      rw [hf] at e
      simp only at e
      obtain ⟨hb2, e⟩ := bif_go e
      have hb2 := Nat.eq_of_beq_eq_true hb2
      split at e
      · rename_i h2 er
        cases e
        refine ⟨ι, σ, h, sr, rs, ts, h1, ea, fun ι1 H1 vs to1 r1 xa dx hx hd hne => ?_⟩
        refine ⟨xa, dx, vs, rfl, upd_same, n, ι1 ++ [xa], h1 ++ [.obj y []], .ref h1.length :: ts, .non, _, ?_, ?_, by simpa using hb2, er, ?_⟩
        · rw [slH_new hne]
          exact (To.obj to1.sr hx hd hne hA).sr
        · rw [slH_new hne]
          exact .cons (rep_new to1.sr) ((To.obj to1.sr hx hd hne hA).repL to1.sr r1)
        · rw [slH_new hne]
          intro ι3 H3 v3 to3 r3
          have to := (To.obj (d := y) to1.sr hx hd hne hA).trans to3
          refine ⟨r3.nonE, k _ _ _ (to1.trans to) ?_⟩
          exact to3.rep (To.obj (d := y) to1.sr hx hd hne hA).sr (rep_new to1.sr)
      · cases e
    · cases e
/-- an __init__ that begins with a new object, told of one with slots -/
def tRel (t : TS) : TS := fun D σ H => ∃ a A dx, H a = some (.ins A dx []) ∧ t D σ (SlX.slH H a A dx [])
theorem pss_rel {b : List Stmt} {t : TS} (h : PSs X b t) : PSs X b (tRel t) := by
  refine ⟨fun pins s σ H D I ⟨a, A, dx, ha, q⟩ => ?_⟩
  have hs : SlX.Slt H a A dx [] := .inl ⟨ha, rfl⟩
  obtain ⟨_, sl, mA, e0, r, _⟩ := SlX.slt_at I hs
  exact h.run pins s σ _ D (SlX.inv_slot (h' := s.heap) (t' := s.toks) I hs (fun b o _ _ e => e) (fun m hm => hm) e0 r) q
end
end Gn

set_option maxHeartbeats 4000000
/-! The engine is right, part 11: one more step for every expression. -/
namespace Gn
open PySem PySem.Spec PyProof.Rows L2 RZ

section
variable {g : Gt} {n : Nat} {l : Nat} {c : SC} {X : Cx}
theorem snd_lc (S : SndE g (run g n)) (x : XOk g c l X) (f : Nat) {elt tg it : Expr} {ifs : List Expr} {scope : Scope} {pos : Pos} {gt : Tg} (hb : blkC c.N c.sc scope (ownOf c scope) = true) (hns : noSet it = true) (hl : Nat.ble ifs.length 1 = true) (hg : cTg (sub c scope) tg = some gt) :
    (∀ ii, (ii = cI f c (isTupE tg) it ∨ ii = lockII (cI f c (isTupE tg) it)) → PE X (.ListComp elt [⟨tg, it, ifs, 0⟩] scope pos) (tLc (rdI X.tx (run g n) l ii) (tg2 X.K gt) (rdTs X.tx (run g n) l (ifs.map (cT f (sub c scope)))) (rdE X.tx (run g n) l (cE f (sub c scope) elt)) ((ownOf c scope).map (·.2)))) ∧
    ∀ ii, (ii = cI f c (isTupE tg) it ∨ ii = lockII (cI f c (isTupE tg) it)) → ∀ (i : Nat) (y : Str) (py spos : Pos), X.N[i]? = some y → X.env.scope.names.lookup y = some .local → swapsWith (.ListComp elt [⟨tg, it, ifs, 0⟩] scope pos) (some (.Name y py)) spos.line X.env = pure true →
      PS X (.Assign [.Name y py] (.ListComp elt [⟨tg, it, ifs, 0⟩] scope pos) spos) (tAsg (tLc (rdI X.tx (run g n) l ii) (tg2 X.K gt) (rdTs X.tx (run g n) l (ifs.map (cT f (sub c scope)))) (rdE X.tx (run g n) l (cE f (sub c scope) elt)) ((ownOf c scope).map (·.2))) (gName i)) := by
  obtain ⟨i1, i2⟩ := snd_I S x f tg it
  have pi : ∀ ii, (ii = cI f c (isTupE tg) it ∨ ii = lockII (cI f c (isTupE tg) it)) → PI X tg it (rdI X.tx (run g n) l ii) := fun ii h => by rcases h with rfl | rfl <;> assumption
  have xb := x.blk scope
  have ok := x.bk hb
  refine ⟨fun ii hii => pe_lc x.calm x.nd (pi ii hii) ok (fun s H D cl fp => pg2 (xb s H D cl fp) hg) (fun s H D cl fp => pts_any (fun e => S.t f (sub c scope) l _ e (xb s H D cl fp)) hl) (fun s H D cl fp => S.e f (sub c scope) l _ elt (xb s H D cl fp)) (noSet_ok hns _), ?_⟩
  intro ii hii i y py spos hy hyl hsw
  exact ps_setLc x.calm x.nd hy hyl hsw (pi ii hii) ok (fun s H D cl fp => pg2 (xb s H D cl fp) hg) (fun s H D cl fp => pts_any (fun e => S.t f (sub c scope) l _ e (xb s H D cl fp)) hl) (fun s H D cl fp => S.e f (sub c scope) l _ elt (xb s H D cl fp)) (noSet_ok hns _)
theorem map_of_mapO : ∀ {ks : List (Option Expr)} {es : List Expr}, mapO (fun k : Option Expr => k) ks = some es → ks = es.map some
  | [], _, e => by cases e; rfl
  | none :: ks, es, e => by cases e
  | some b :: ks, es, e => by
    unfold mapO at e
    simp only at e
    split at e
    · rename_i bs hbs
      cases e
      rw [map_of_mapO hbs]; rfl
    · cases e
theorem rd_dct0 {C : Tx} {r : Rec} {ρ : L2.St} {H : Hp} {Q : VK} (h : rdE C (step g r) l (.dct []) ρ H Q) : tDNewK ρ H Q := by
  obtain ⟨ι, σ, h, sr, rs, t, h', e, k⟩ := h
  replace e : some (T.ref h.length, h ++ [.dk []]) = some (t, h') := e
  obtain ⟨e1, e2⟩ := Prod.mk.inj (Option.some.inj e)
  subst e1
  subst e2
  exact fun p hp => k _ _ _ (To.new sr hp ⟨[], upd_same, .nil⟩) (rep_new sr)
theorem rngOf_ok {c : SC} {args : List Expr} {z : Expr} (h : rngOf c args = some z) : ∃ p2 pos2, args = [.Call (.Name sRange p2) [z] [] pos2] ∧ isGlob c sRange = true ∧ noStar z = true := by
  unfold rngOf at h
  split at h
  · rename_i y p2 z' pos2
    obtain ⟨hb, hz⟩ := bif_some h
    subst hz
    obtain ⟨hb, hn⟩ := Bool.and_eq_true_iff.mp hb
    obtain ⟨hb, hy⟩ := Bool.and_eq_true_iff.mp hb
    have e := of_decide_eq_true hy
    subst e
    exact ⟨p2, pos2, rfl, (Bool.and_eq_true_iff.mp hb).1, hn⟩
  · cases h
theorem putR_ok {X : Cx} (hu : X.A.units + 65 < cLine) : PutR X (rPut X.tx) := fun pins s σ H E D i v iv u Q I ri rv q => put_ok hu I ri rv q
theorem snd_e (S : SndE g (run g n)) : ∀ (f : Nat) (c : SC) (l : Nat) (X : Cx) (ex : Expr), XOk g c l X → PE X ex (rdE X.tx (step g (run g n)) l (cE f c ex)) := by
  intro f
  induction f with
  | zero => exact fun c l X ex x => pe_bad
  | succ f ih =>
    intro c l X ex x
    have hu := x.hu
    cases ex with
    | Name y p => exact snd_name x
    | Constant k j p => exact snd_con x
    | BinOp a op b p => exact peW (pe_op (bin_ok op) (S.e f c l X a x) (S.e f c l X b x)) fun ρ H Q q => rd_bin q
    | UnaryOp op a p =>
      cases op with
      | Not => exact peW (pe_not (S.e f c l X a x)) fun ρ H Q q => rd_not q
      | UAdd => exact pe_bad
      | USub => exact peW (pe_un (un_ok .USub) (S.e f c l X a x)) fun ρ H Q q => rd_un q
      | Invert => exact peW (pe_un (un_ok .Invert) (S.e f c l X a x)) fun ρ H Q q => rd_un q
    | BoolOp op vs p =>
      match vs with
      | [] => exact pe_bad
      | [a] => exact pe_one (ih c l X a x)
      | a :: b :: rest =>
        cases op with
        | And => exact peW (pe_and (S.e f c l X a x) (S.e f c l X (.BoolOp .And (b :: rest) p) x)) fun ρ H Q q => rd_and q
        | Or => exact peW (pe_or (S.e f c l X a x) (S.e f c l X (.BoolOp .Or (b :: rest) p) x)) fun ρ H Q q => rd_or q
    | IfExp t a b p => exact peW (pe_ifExp (S.t f c l X t x) (S.e f c l X a x) (S.e f c l X b x)) fun ρ H Q q => rd_ife q
    | Compare a ops bs p =>
      match ops, bs with
      | [op], [b] =>
        show PE X _ (rdE X.tx (step g (run g n)) l (bif behindInMarks op b then .bad else .cmp op (cE f c a) (cE f c b)))
        cases hm : behindInMarks op b with
        | true => exact pe_bad
        | false => exact peW (pe_cmpR (cmp_ok hu op) (S.e f c l X a x) (S.e f c l X b x) hm) fun ρ H Q q => rd_cmp q
      | [op, op'], [b, d] =>
        show PE X _ (rdE X.tx (step g (run g n)) l (bif lastMarks [op, op'] [b, d] then .bad else .chain op op' (cE f c a) (cE f c b) (cE f c d)))
        cases hm : lastMarks [op, op'] [b, d] with
        | true => exact pe_bad
        | false => exact peW (pe_chain (cmp_ok hu op) (cmp_ok hu op') (S.e f c l X a x) (S.e f c l X b x) (S.e f c l X d x) hm) fun ρ H Q q => rd_chain q
      | [], _ => exact pe_bad
      | [_], [] => exact pe_bad
      | [_], _ :: _ :: _ => exact pe_bad
      | [_, _], [] => exact pe_bad
      | [_, _], [_] => exact pe_bad
      | [_, _], _ :: _ :: _ :: _ => exact pe_bad
      | _ :: _ :: _ :: _, _ => exact pe_bad
    | Tuple es k p =>
      show PE X _ (rdE X.tx (step g (run g n)) l (bif es.all noStar then .tup (es.map (cE f c)) else .tupS (es.map (stE (cE f c)))))
      cases hn : es.all noStar with
      | true => exact peW (pe_tup (S.a f c l X es x hn)) fun ρ H Q q => rd_tup q
      | false => exact peW (pe_tup (snd_star (fun e => S.e f c l X e x) es)) fun ρ H Q q => rd_tupS q
    | List es p =>
      show PE X _ (rdE X.tx (step g (run g n)) l (bif es.all noStar then .lst (es.map (cE f c)) else .lstS (es.map (stE (cE f c)))))
      cases hn : es.all noStar with
      | true => exact peW (pe_lst (S.a f c l X es x hn)) fun ρ H Q q => rd_lst q
      | false => exact peW (pe_lst (snd_star (fun e => S.e f c l X e x) es)) fun ρ H Q q => rd_lstS q
    | Subscript a i p =>
      have idx : noSlc i = true → PE X (.Subscript a i p) (rdE X.tx (step g (run g n)) l (.idx (cE f c a) (cE f c i))) := fun hs =>
        peW (pe_idx hu (S.e f c l X a x) (S.e f c l X i x) (by cases i <;> first | exact fun _ _ => rfl | cases hs)) fun ρ H Q q => rd_idx q
      cases i with
      | Slice lo hi st p2 =>
        cases st with
        | none => exact peW (pe_slice slc_ok (S.e f c l X a x) (snd_opt (fun e => S.e f c l X e x) lo) (snd_opt (fun e => S.e f c l X e x) hi)) fun ρ H Q q => rd_slc q
        | some _ => exact pe_bad
      | _ => exact idx rfl
    | Dict ks vs p =>
      unfold cE
      simp only
      split
      · rename_i es hes
        have e := map_of_mapO hes
        subst e
        cases hb : Nat.beq es.length vs.length && Nat.ble es.length 15 with
        | false => exact pe_bad
        | true =>
          obtain ⟨h1, h2⟩ := Bool.and_eq_true_iff.mp hb
          have h1 := Nat.eq_of_beq_eq_true h1
          have h2 := Nat.le_of_ble_eq_true h2
          simp only [cond_true]
          cases es with
          | nil =>
            cases vs with
            | nil => exact peW pe_dnewK fun ρ H Q q => rd_dct0 q
            | cons _ _ => cases h1
          | cons e es => exact peW (pe_dspG (snd_pairs (fun e => S.e f c l X e x) (e :: es) vs h1) (putR_ok hu) h1 (by simp) h2) fun ρ H Q q => rd_dct q
      · exact pe_bad
    | ListComp elt gens scope p =>
      unfold cE
      simp only
      split
      · rename_i tg it ifs
        cases hb : blkC c.N c.sc scope (ownOf c scope) && noSet it && Nat.ble ifs.length 1 with
        | false => exact pe_bad
        | true =>
          obtain ⟨hb, hl⟩ := Bool.and_eq_true_iff.mp hb
          obtain ⟨hb, hns⟩ := Bool.and_eq_true_iff.mp hb
          simp only [cond_true]
          split
          · rename_i gt hg
            cases hs : subsetN gt.slots ((ownOf c scope).map (·.2)) with
            | false => exact pe_bad
            | true =>
              have h1 := (snd_lc S x f (elt := elt) (pos := p) hb hns hl hg).1
              exact peW (PE.or (h1 _ (.inl rfl)) (pe_lock (h1 _ (.inr rfl)))) fun ρ H Q q => rd_lc (subsetN_ok hs) q
          · exact pe_bad
      · rename_i tg it ifs tg1 it1 ifs1
        cases hb : blkC c.N c.sc scope (ownOf c scope) && noSet it && noSet it1 && Nat.ble ifs.length 1 && Nat.ble ifs1.length 1 with
        | false => exact pe_bad
        | true =>
          obtain ⟨hb, hl1⟩ := Bool.and_eq_true_iff.mp hb
          obtain ⟨hb, hl⟩ := Bool.and_eq_true_iff.mp hb
          obtain ⟨hb, hns1⟩ := Bool.and_eq_true_iff.mp hb
          obtain ⟨hb, hns⟩ := Bool.and_eq_true_iff.mp hb
          simp only [cond_true]
          split
          · rename_i gt gt1 hg hg1
            cases hs : subsetN gt.slots ((ownOf c scope).map (·.2)) && subsetN gt1.slots ((ownOf c scope).map (·.2)) with
            | false => exact pe_bad
            | true =>
              obtain ⟨hs, hs1⟩ := Bool.and_eq_true_iff.mp hs
              have xb := x.blk scope
              exact peW (pe_lc2 (vs1 := gt1.slots) x.calm x.nd (snd_I S x f tg it).1 (x.bk hb) (subsetN_ok hs1) (fun s H D cl fp => pg2 (xb s H D cl fp) hg) (fun s H D cl fp => pts_any (fun e => S.t f (sub c scope) l _ e (xb s H D cl fp)) hl) (fun s H D cl fp => (snd_I S (xb s H D cl fp) f tg1 it1).1)
                (fun s H D cl fp => pg2 (xb s H D cl fp) hg1) (fun s H D cl fp => pts_any (fun e => S.t f (sub c scope) l _ e (xb s H D cl fp)) hl1) (fun s H D cl fp => S.e f (sub c scope) l _ elt (xb s H D cl fp)) (noSet_ok hns _) (fun env => noSet_ok hns1 env)) fun ρ H Q q => rd_lc2 (subsetN_ok hs) q
          · exact pe_bad
      · exact pe_bad
    | DictComp k v gens scope p =>
      unfold cE
      simp only
      split
      · rename_i tg it ifs
        cases hb : blkC c.N c.sc scope (ownOf c scope) && noSet it && Nat.ble ifs.length 1 with
        | false => exact pe_bad
        | true =>
          obtain ⟨hb, hl⟩ := Bool.and_eq_true_iff.mp hb
          obtain ⟨hb, hns⟩ := Bool.and_eq_true_iff.mp hb
          simp only [cond_true]
          split
          · rename_i gt hg
            cases hs : subsetN gt.slots ((ownOf c scope).map (·.2)) with
            | false => exact pe_bad
            | true =>
              have xb := x.blk scope
              exact peW (pe_dcG x.calm x.nd (snd_I S x f tg it).1 (x.bk hb) (fun s H D cl fp => pg2 (xb s H D cl fp) hg) (fun s H D cl fp => pts_any (fun e => S.t f (sub c scope) l _ e (xb s H D cl fp)) hl) (fun s H D cl fp => S.e f (sub c scope) l _ k (xb s H D cl fp)) (fun s H D cl fp => S.e f (sub c scope) l _ v (xb s H D cl fp)) (fun s H D cl fp => putR_ok (xb s H D cl fp).hu) (noSet_ok hns _)) fun ρ H Q q => rd_dc (subsetN_ok hs) q
          · exact pe_bad
      · exact pe_bad
    | Call fn args kws p =>
      unfold cE
      simp only
      split
      · cases hn : args.all noStar with
        | false => exact pe_bad
        | true =>
          simp only [cond_true]
          split
          · -- a name
            rename_i y yp
            cases hgp : isGlob c y && plain y with
            | false => exact pe_bad
            | true =>
              obtain ⟨hg, hp⟩ := Bool.and_eq_true_iff.mp hgp
              simp only [cond_true]
              split
              · rename_i k hk
                cases args with
                | nil => exact pe_bad
                | cons a as => exact snd_call x hg hp hk (S.a f c l X (a :: as) x hn) hn
              · rename_i k hk
                cases args with
                | nil => exact pe_bad
                | cons a as => exact snd_newO x hg hp hk (S.a f c l X (a :: as) x hn) hn
              · exact pe_bad
              · rename_i hk
                cases hd : decide (y = sIsi) with
                | true =>
                  have e := of_decide_eq_true hd
                  subst e
                  simp only [cond_true]
                  split
                  · rename_i a t tp
                    cases ht : isB c t && plain t with
                    | false => exact pe_bad
                    | true =>
                      simp only [cond_true]
                      split
                      · rename_i ty hty
                        have hnn : noStar a = true := by simp at hn; exact hn.1
                        exact snd_isi x hg (Bool.and_eq_true_iff.mp (Bool.and_eq_true_iff.mp ht).1).1 hty (S.e f c l X a x) hnn
                      · exact pe_bad
                  · exact pe_bad
                | false =>
                  simp only [cond_false]
                  split
                  · rename_i b hb
                    split
                    · rename_i z hz
                      obtain ⟨p2, pos2, rfl, hgr, hnz⟩ := rngOf_ok hz
                      have hm := find_mem hb
                      simp only [bltn, List.mem_cons, List.not_mem_nil, or_false, Prod.mk.injEq] at hm
                      split
                      · have e : y = "list" := by
                          rcases hm with ⟨h1, h2⟩ | ⟨h1, h2⟩ | ⟨h1, h2⟩ | ⟨h1, h2⟩ | ⟨h1, h2⟩ | ⟨h1, h2⟩ | ⟨h1, h2⟩ | ⟨h1, h2⟩ | ⟨h1, h2⟩ | ⟨h1, h2⟩ | ⟨h1, h2⟩ <;> first | exact h1 | cases h2
                        subst e
                        exact snd_rangeL x hg hgr (S.e f c l X z x) hnz
                      · have e : y = "tuple" := by
                          rcases hm with ⟨h1, h2⟩ | ⟨h1, h2⟩ | ⟨h1, h2⟩ | ⟨h1, h2⟩ | ⟨h1, h2⟩ | ⟨h1, h2⟩ | ⟨h1, h2⟩ | ⟨h1, h2⟩ | ⟨h1, h2⟩ | ⟨h1, h2⟩ | ⟨h1, h2⟩ <;> first | exact h1 | cases h2
                        subst e
                        exact snd_rangeT x hg hgr (S.e f c l X z x) hnz
                      · exact pe_bad
                    · cases args with
                      | nil =>
                        have eb : cBltn b (([] : List Expr).map (cE f c)) c.z = .bad := by unfold cBltn; cases c.z <;> cases b <;> rfl
                        rw [eb]
                        exact pe_bad
                      | cons a as =>
                        unfold cBltn
                        have h1 := snd_bi (p := yp) (pos := p) x hg hb (S.a f c l X (a :: as) x hn) hn
                        split
                        · rename_i e1 hz hes
                          have hm := find_mem hb
                          simp only [bltn, List.mem_cons, List.not_mem_nil, or_false, Prod.mk.injEq] at hm
                          have e : y = "tuple" := by
                            rcases hm with ⟨h1, h2⟩ | ⟨h1, h2⟩ | ⟨h1, h2⟩ | ⟨h1, h2⟩ | ⟨h1, h2⟩ | ⟨h1, h2⟩ | ⟨h1, h2⟩ | ⟨h1, h2⟩ | ⟨h1, h2⟩ | ⟨h1, h2⟩ | ⟨h1, h2⟩ <;> first | exact h1 | cases h2
                          subst e
                          cases as with
                          | cons _ _ => simp at hes
                          | nil =>
                            have e2 : cE f c a = e1 := by simpa using hes
                            rw [← e2]
                            exact snd_tupZ (ia := []) x hg (S.e f c l X a x) (by simpa using hn)
                        · rename_i heq; cases heq
                        · exact h1
                  · exact pe_bad
          · -- a method
            rename_i o m ap
            cases hc : noSup o && decide (args.length < 20) && (ap.endLine == p.line) with
            | false => exact pe_bad
            | true =>
              obtain ⟨hc, hline⟩ := Bool.and_eq_true_iff.mp hc
              obtain ⟨hs, hl⟩ := Bool.and_eq_true_iff.mp hc
              have hl := of_decide_eq_true hl
              simp only [cond_true]
              split
              · rename_i mi hmi
                have h1 := snd_mth x (p := p) (S.e f c l X o x) (S.a f c l X args x hn) hn hs hl hline hmi
                cases args with
                | nil => exact h1
                | cons a as => exact h1
              · cases hd : decide (m = sIndex) with
                | true =>
                  have e := of_decide_eq_true hd
                  subst e
                  simp only [cond_true]
                  have zi : ∀ o args, args.all noStar = true → noSup o = true → args.length < 20 → PE X (.Call (.Attribute o sIndex ap) args [] p) (rdE X.tx (step g (run g n)) l (.zidx (cE f c o) (args.map (cE f c)))) := fun o args hn hs hl => by
                    cases args with
                    | nil =>
                      refine peN fun _ _ _ => rd_none fun σ h => ?_
                      show stepE g (run g n) l (.zidx (cE f c o) []) σ h = none
                      simp only [stepE]
                      split
                      · split
                        · rename_i h5; cases n <;> cases h5
                        · rename_i h5; cases n <;> cases h5
                        · rfl
                      · rfl
                    | cons a as => exact snd_zidx x (S.e f c l X o x) (S.a f c l X (a :: as) x hn) hn hs hl hline
                  cases o with
                  | Name gn gp =>
                    cases args with
                    | nil => exact zi (.Name gn gp) [] hn hs hl
                    | cons a as =>
                      cases as with
                      | cons b bs => exact zi (.Name gn gp) (a :: b :: bs) hn hs hl
                      | nil =>
                        simp only
                        cases hgp : isGlob c gn && plain gn with
                        | false => exact zi (.Name gn gp) [a] hn hs hl
                        | true =>
                          obtain ⟨hg, hp⟩ := Bool.and_eq_true_iff.mp hgp
                          simp only [cond_true]
                          split
                          · rename_i k hk
                            exact snd_kidx x hg hp hk (S.e f c l X a x) (by simpa using hn) hline
                          · exact pe_bad
                  | _ => exact zi _ args hn hs hl
                | false =>
                  simp only [cond_false]
                  split
                  · rename_i q hq
                    cases args with
                    | nil => exact snd_cmth0 x hq (S.e f c l X o x) hs hline
                    | cons a as => exact snd_cmth x hq (S.e f c l X o x) (S.a f c l X (a :: as) x hn) hn hs hl hline
                  · exact pe_bad
          · exact pe_bad
      · exact pe_bad
    | Attribute o a p =>
      show PE X _ (rdE X.tx (step g (run g n)) l (bif noSup o then (match find c.sl a with | some q => .fld q.1 (cE f c o) q.2 | none => .bad) else .bad))
      cases hs : noSup o with
      | false => exact pe_bad
      | true =>
        simp only [cond_true]
        split
        · rename_i q hq
          exact snd_fld x hq (S.e f c l X o x) hs
        · exact pe_bad
    | _ => exact pe_bad
theorem pt_bad {e : Expr} : PT X e (rdT X.tx (step g (run g n)) l .bad) := ⟨fun pins s σ H Q I ⟨ι, σ', h, sr, rs, b, h', e, k⟩ => by cases e⟩
theorem rdt_tru {C : Tx} {r : Rec} {a : IE} {ρ : L2.St} {H : Hp} {Q : Bool → Hp → Prop} (h : rdT C (step g r) l (.tru a) ρ H Q) : rdE C r l a ρ H fun x H' => ∃ k, TruV C.K x H' k ∧ Q k H' := by
  obtain ⟨ι, σ, h, sr, rs, t, h', e, k⟩ := h
  replace e : stepT g r l (.tru a) σ h = some (t, h') := e
  simp only [stepT] at e
  split at e
  · rename_i x h1 e1
    split at e
    · rename_i b hb
      cases e
      exact ⟨ι, σ, h, sr, rs, x, _, e1, fun ι1 H1 v1 to1 r1 => ⟨_, tru_is to1.sr r1 hb, k _ _ to1⟩⟩
    · cases e
  · cases e
theorem rdt_chain {C : Tx} {r : Rec} {op op' : CmpOp} {a b d : IE} {ρ : L2.St} {H : Hp} {Q : Bool → Hp → Prop} (h : rdT C (step g r) l (.chain op op' a b d) ρ H Q) : tTest (tChain (rCmp C op) (rCmp C op') (rdE C r l a) (rdE C r l b) (rdE C r l d)) ρ H Q := by
  obtain ⟨ι, σ, h, sr, rs, t, h', e, k⟩ := h
  replace e : (match stepE g r l (.chain op op' a b d) σ h with | some (.bl b, h1) => some (b, h1) | _ => none) = some (t, h') := e
  split at e
  · rename_i q h1 e1
    cases e
    exact rd_chain (g := g) ⟨ι, σ, h, sr, rs, _, _, e1, fun ι1 H1 v1 to1 r1 => ⟨t, r1.blE, k _ _ to1⟩⟩
  · cases e
theorem snd_t (S : SndE g (run g n)) : ∀ (f : Nat) (c : SC) (l : Nat) (X : Cx) (ex : Expr), XOk g c l X → PT X ex (rdT X.tx (step g (run g n)) l (cT f c ex)) := by
  intro f
  induction f with
  | zero => exact fun c l X ex x => pt_bad
  | succ f ih =>
    intro c l X ex x
    have hu := x.hu
    have tru : (∀ whole, isTrue ex X.env whole = (do let v ← whole; standAt ex.pos; holding [v] (truthy v))) → PT X ex (rdT X.tx (step g (run g n)) l (.tru (cE f c ex))) := fun he => ptW (pt_truth (S.e f c l X ex x) he) fun ρ H Q q => rdt_tru q
    cases ex with
    | UnaryOp op a p =>
      cases op with
      | Not => exact ptW (pt_not (S.t f c l X a x)) fun ρ H Q q => rdt_not q
      | UAdd => exact tru fun _ => rfl
      | USub => exact tru fun _ => rfl
      | Invert => exact tru fun _ => rfl
    | BoolOp op vs p =>
      match vs with
      | [] => exact pt_bad
      | [a] =>
        cases op with
        | And => exact (pw_and1 (ih c l X a x)).pt
        | Or => exact (pw_or1 (ih c l X a x)).pt
      | a :: b :: rest =>
        cases op with
        | And =>
          have pw : PW X (.BoolOp .And (b :: rest) p) (rdT X.tx (run g n) l (cT f c (.BoolOp .And (b :: rest) p))) := ⟨fun _ pins s σ H Q I q => (S.t f c l X (.BoolOp .And (b :: rest) p) x).run pins s σ H Q I q⟩
          exact ptW (pw_and (S.t f c l X a x) pw).pt fun ρ H Q q => rdt_and q
        | Or =>
          have pw : PW X (.BoolOp .Or (b :: rest) p) (rdT X.tx (run g n) l (cT f c (.BoolOp .Or (b :: rest) p))) := ⟨fun _ pins s σ H Q I q => (S.t f c l X (.BoolOp .Or (b :: rest) p) x).run pins s σ H Q I q⟩
          exact ptW (pw_or (S.t f c l X a x) pw).pt fun ρ H Q q => rdt_or q
    | IfExp t a b p => exact pt_bad
    | Compare a ops bs p =>
      match ops, bs with
      | [op], [b] =>
        show PT X _ (rdT X.tx (step g (run g n)) l (bif behindInMarks op b then .bad else .cmp op (cE f c a) (cE f c b)))
        cases hm : behindInMarks op b with
        | true => exact pt_bad
        | false => exact ptW (pt_cmpR (cmp_ok hu op) (S.e f c l X a x) (S.e f c l X b x) hm) fun ρ H Q q => rdt_cmp q
      | [op, op'], [b, d] =>
        show PT X _ (rdT X.tx (step g (run g n)) l (bif lastMarks [op, op'] [b, d] then .bad else .chain op op' (cE f c a) (cE f c b) (cE f c d)))
        cases hm : lastMarks [op, op'] [b, d] with
        | true => exact pt_bad
        | false => exact ptW (pt_chain (cmp_ok hu op) (cmp_ok hu op') (S.e f c l X a x) (S.e f c l X b x) (S.e f c l X d x) hm) fun ρ H Q q => rdt_chain q
      | [], _ => exact pt_bad
      | [_], [] => exact pt_bad
      | [_], _ :: _ :: _ => exact pt_bad
      | [_, _], [] => exact pt_bad
      | [_, _], [_] => exact pt_bad
      | [_, _], _ :: _ :: _ :: _ => exact pt_bad
      | _ :: _ :: _ :: _, _ => exact pt_bad
    | _ => exact tru fun _ => rfl
theorem snd_a (S : SndE g (run g n)) (f : Nat) (c : SC) (l : Nat) (X : Cx) : ∀ (es : List Expr), XOk g c l X → es.all noStar = true → PA X es (rdA X.tx (step g (run g n)) l (es.map (cE f c)))
  | [], x, h => paW pa_nil fun ρ H Q q => rda_nil q
  | e :: es, x, h => by
    rw [List.all_cons, Bool.and_eq_true] at h
    exact paW (pa_cons (S.e f c l X e x) (S.a f c l X es x h.2) (star_cons h.1)) fun ρ H Q q => rda_cons q
/-- every expression -/
theorem snd_all (g : Gt) : ∀ n : Nat, SndE g (run g n)
  | 0 => ⟨fun f c l X ex x => peN fun _ _ _ ⟨_, _, _, _, _, _, _, e, _⟩ => (nomatch e), fun f c l X ex x => ⟨fun pins s σ H Q I ⟨_, _, _, _, _, _, _, e, _⟩ => (nomatch e)⟩, fun f c l X es x h => ⟨fun pos pins s σ H Q I ⟨_, _, _, _, _, _, _, e, _⟩ => (nomatch e)⟩⟩
  | n + 1 => ⟨snd_e (snd_all g n), snd_t (snd_all g n), fun f c l X es x h => snd_a (snd_all g n) f c l X es x h⟩
end
end Gn

/-! The engine is right, part 12: statements. -/
namespace Gn
open PySem PySem.Spec PyProof.Rows L2 RZ

def EndsAt (K : PySem.W.Frag) (D : Ends) (fl : Fl) (ι : List Addr) (ρ : L2.St) (H : Hp) : Prop := match fl with
  | .nx => D.nx ρ H
  | .bk => D.bk ρ H
  | .ct => D.ct ρ H
  | .rt t => ∀ v, Rep K H ι t v → D.rt v H
abbrev rdS (C : Tx) (r : Rec) (l : Nat) (is : IS) : TS := fun D ρ H => ∃ ι σ h, SR C ι h H ∧ RepS C.K H ι σ ρ ∧ ∃ fl σ' h', r.s l is σ h = some (fl, σ', h') ∧ ∀ ι' H' ρ', To C ι H ι' h' H' → RepS C.K H' ι' σ' ρ' → EndsAt C.K D fl ι' ρ' H'
abbrev rdSs (C : Tx) (r : Rec) (l : Nat) (is : List IS) : TS := fun D ρ H => ∃ ι σ h, SR C ι h H ∧ RepS C.K H ι σ ρ ∧ ∃ fl σ' h', r.ss l is σ h = some (fl, σ', h') ∧ ∀ ι' H' ρ', To C ι H ι' h' H' → RepS C.K H' ι' σ' ρ' → EndsAt C.K D fl ι' ρ' H'
section
variable {C : Tx} {g : Gt} {r : Rec} {n l : Nat} {c : SC} {X : Cx}
theorem ps_bad {s : Stmt} : PS X s (rdS X.tx (step g r) l .bad) := ⟨fun pins s σ H D I ⟨_, _, _, _, _, _, _, _, e, _⟩ => (nomatch e)⟩
theorem rds_ret {e : IE} {D : Ends} {ρ : L2.St} {H : Hp} (h : rdS C (step g r) l (.ret e) D ρ H) : tRet (rdE C r l e) D ρ H := by
  obtain ⟨ι, σ, h, sr, rs, fl, σ', h', e', k⟩ := h
  replace e' : stepS g r l (.ret e) σ h = some (fl, σ', h') := e'
  simp only [stepS] at e'
  split at e'
  · rename_i t h1 e1
    cases e'
    exact ⟨ι, σ, h, sr, rs, t, _, e1, fun ι1 H1 v1 to1 r1 => k ι1 H1 ρ to1 (to1.repS sr rs) v1 r1⟩
  · cases e'
theorem rds_expr {e : IE} {D : Ends} {ρ : L2.St} {H : Hp} (h : rdS C (step g r) l (.expr e) D ρ H) : tDrop (rdE C r l e) D ρ H := by
  obtain ⟨ι, σ, h, sr, rs, fl, σ', h', e', k⟩ := h
  replace e' : stepS g r l (.expr e) σ h = some (fl, σ', h') := e'
  simp only [stepS] at e'
  split at e'
  · rename_i t h1 e1
    cases e'
    exact ⟨ι, σ, h, sr, rs, t, _, e1, fun ι1 H1 v1 to1 r1 => k ι1 H1 ρ to1 (to1.repS sr rs)⟩
  · cases e'
theorem rds_asg {tg : Tg} {e : IE} {D : Ends} {ρ : L2.St} {H : Hp} (h : rdS C (step g r) l (.asg tg e) D ρ H) : tAsg (rdE C r l e) (tg2 C.K tg) D ρ H := by
  obtain ⟨ι, σ, h, sr, rs, fl, σ', h', e', k⟩ := h
  replace e' : stepS g r l (.asg tg e) σ h = some (fl, σ', h') := e'
  simp only [stepS] at e'
  split at e'
  · rename_i t h1 e1
    split at e'
    · rename_i σ1 eb
      cases e'
      exact ⟨ι, σ, h, sr, rs, t, _, e1, fun ι1 H1 v1 to1 r1 => bindT_ok C.K tg H1 ι1 t v1 σ _ ρ _ eb r1 (to1.repS sr rs) fun ρ' rs' _ => k ι1 H1 ρ' to1 rs'⟩
    · cases e'
  · cases e'
theorem rds_set {o i e : IE} {D : Ends} {ρ : L2.St} {H : Hp} (h : rdS C (step g r) l (.set o i e) D ρ H) : tAsg (rdE C r l e) (gSub (rdE C r l o) (rdE C r l i) (rSet C)) D ρ H := by
  obtain ⟨ι, σ, h, sr, rs, fl, σ', h', e', k⟩ := h
  replace e' : stepS g r l (.set o i e) σ h = some (fl, σ', h') := e'
  simp only [stepS] at e'
  split at e'
  · rename_i t h1 e1
    split at e'
    · rename_i x h2 e2
      split at e'
      · rename_i y h3 e3
        split at e'
        · rename_i h4 e4
          cases e'
          exact ⟨ι, σ, h, sr, rs, t, _, e1, fun ι1 H1 v1 to1 r1 => ⟨ι1, σ, h1, to1.sr, to1.repS sr rs, x, h2, e2, fun ι2 H2 v2 to2 r2 => ⟨ι2, σ, h2, to2.sr, to2.repS to1.sr (to1.repS sr rs), y, h3, e3, fun ι3 H3 v3 to3 r3 =>
            ⟨ι3, h3, x, y, t, _, to3.sr, to3.rep to2.sr r2, r3, to3.rep to2.sr (to2.rep to1.sr r1), e4, fun H4 to4 => k _ _ _ (((to1.trans to2).trans to3).trans to4) (to4.repS to3.sr (to3.repS to2.sr (to2.repS to1.sr (to1.repS sr rs))))⟩⟩⟩⟩
        · cases e'
      · cases e'
    · cases e'
  · cases e'
theorem rds_setF {d : Str} {o e : IE} {i : Nat} {D : Ends} {ρ : L2.St} {H : Hp} (h : rdS C (step g r) l (.setF d o i e) D ρ H) : tAsg (rdE C r l e) (gFld C r l d o i) D ρ H := by
  obtain ⟨ι, σ, h, sr, rs, fl, σ', h', e', k⟩ := h
  replace e' : stepS g r l (.setF d o i e) σ h = some (fl, σ', h') := e'
  simp only [stepS] at e'
  split at e'
  · rename_i t h1 e1
    split at e'
    · rename_i x h2 e2
      split at e'
      · rename_i h3 e3
        cases e'
        exact ⟨ι, σ, h, sr, rs, t, _, e1, fun ι1 H1 v1 to1 r1 => ⟨ι1, σ, h1, to1.sr, to1.repS sr rs, x, h2, e2, fun ι2 H2 v2 to2 r2 =>
          ⟨ι2, h2, x, t, _, to2.sr, r2, to2.rep to1.sr r1, e3, fun H3 to3 => k _ _ _ ((to1.trans to2).trans to3) (to3.repS to2.sr (to2.repS to1.sr (to1.repS sr rs)))⟩⟩⟩
      · cases e'
    · cases e'
  · cases e'
abbrev rAug (C : Tx) (op : Operator) : TIp := fun xv yv H Q => ∃ ι h x y z, SR C ι h H ∧ Rep C.K H ι x xv ∧ Rep C.K H ι y yv ∧ augT op x y = some z ∧ PV C ι H z h Q
theorem aug_ok (op : Operator) : PIp X op (rAug X.tx op) := by
  intro pins s σ H xv yv v u Q I rv ru ⟨ι, h, x, y, z, sr, rx, ry, e, k⟩
  unfold augT at e
  split at e
  · cases op <;> first
      | (cases e; exact iop_add pins s σ H xv yv v u Q I rv ru ⟨_, _, rx.intE, ry.intE, k ι H _ (To.refl sr) (.int _)⟩)
      | (cases e; exact iop_sub pins s σ H xv yv v u Q I rv ru ⟨_, _, rx.intE, ry.intE, k ι H _ (To.refl sr) (.int _)⟩)
      | (cases e; exact iop_and pins s σ H xv yv v u Q I rv ru ⟨_, _, rx.intE, ry.intE, k ι H _ (To.refl sr) (.int _)⟩)
      | (cases e; exact iop_or pins s σ H xv yv v u Q I rv ru ⟨_, _, rx.intE, ry.intE, k ι H _ (To.refl sr) (.int _)⟩)
      | (cases e; exact iop_xor pins s σ H xv yv v u Q I rv ru ⟨_, _, rx.intE, ry.intE, k ι H _ (To.refl sr) (.int _)⟩)
      | cases e
  · cases e
theorem rds_augN {i : Nat} {op : Operator} {e : IE} {D : Ends} {ρ : L2.St} {H : Hp} (h : rdS C (step g r) l (.augN i op e) D ρ H) : tAug i (rdE C r l e) (rAug C op) D ρ H := by
  obtain ⟨ι, σ, h, sr, rs, fl, σ', h', e', k⟩ := h
  replace e' : stepS g r l (.augN i op e) σ h = some (fl, σ', h') := e'
  simp only [stepS] at e'
  split at e'
  · rename_i x ex
    obtain ⟨xv, ev, rx⟩ := rs.at_ i x ex
    split at e'
    · rename_i y h1 e1
      split at e'
      · rename_i z ez
        split at e'
        · rename_i σ1 eb
          cases e'
          refine ⟨xv, ev, ι, σ, h, sr, rs, y, _, e1, fun ι1 H1 v1 to1 r1 => ⟨ι1, _, x, y, z, to1.sr, to1.rep sr rx, r1, ez, fun ι2 H2 v2 to2 r2 => ?_⟩⟩
          exact k _ _ _ (to1.trans to2) (setS_ok eb r2 (to2.repS to1.sr (to1.repS sr rs)))
        · cases e'
      · cases e'
    · cases e'
  · cases e'
theorem rds_augS {o i : IE} {op : Operator} {e : IE} {D : Ends} {ρ : L2.St} {H : Hp} (h : rdS C (step g r) l (.augS o i op e) D ρ H) : tAugS (rdE C r l o) (rdE C r l i) (rdE C r l e) (rIdx C) (rAug C op) (rSet C) D ρ H := by
  obtain ⟨ι, σ, h, sr, rs, fl, σ', h', e', k⟩ := h
  replace e' : stepS g r l (.augS o i op e) σ h = some (fl, σ', h') := e'
  simp only [stepS] at e'
  split at e'
  · rename_i x h1 e1
    split at e'
    · rename_i y h2 e2
      split at e'
      · rename_i old eo
        split at e'
        · rename_i v h3 e3
          split at e'
          · rename_i z ez
            split at e'
            · rename_i h5 e5
              cases e'
              refine ⟨ι, σ, h, sr, rs, x, h1, e1, fun ι1 H1 v1 to1 r1 => ⟨ι1, σ, h1, to1.sr, to1.repS sr rs, y, h2, e2, fun ι2 H2 v2 to2 r2 => ⟨ι2, h2, x, y, old, to2.sr, to2.rep to1.sr r1, r2, eo, fun ι3 H3 v3 to3 r3 => ?_⟩⟩⟩
              have rs3 := to3.repS to2.sr (to2.repS to1.sr (to1.repS sr rs))
              refine ⟨ι3, σ, h2, to3.sr, rs3, v, h3, e3, fun ι4 H4 v4 to4 r4 => ⟨ι4, h3, old, v, z, to4.sr, to4.rep to3.sr r3, r4, ez, fun ι5 H5 v5 to5 r5 => ?_⟩⟩
              refine ⟨ι5, h3, x, y, z, _, to5.sr, to5.rep to4.sr (to4.rep to3.sr (to3.rep to2.sr (to2.rep to1.sr r1))), to5.rep to4.sr (to4.rep to3.sr (to3.rep to2.sr r2)), r5, e5, fun H6 to6 => ?_⟩
              exact k _ _ _ (((((to1.trans to2).trans to3).trans to4).trans to5).trans to6) (to6.repS to5.sr (to5.repS to4.sr (to4.repS to3.sr rs3)))
            · cases e'
          · cases e'
        · cases e'
      · cases e'
    · cases e'
  · cases e'
theorem rds_if {t : IE} {a b : List IS} {D : Ends} {ρ : L2.St} {H : Hp} (h : rdS C (step g r) l (.ifs t a b) D ρ H) : tIfS (rdT C r l t) (rdSs C r l a) (rdSs C r l b) D ρ H := by
  obtain ⟨ι, σ, h, sr, rs, fl, σ', h', e', k⟩ := h
  replace e' : stepS g r l (.ifs t a b) σ h = some (fl, σ', h') := e'
  simp only [stepS] at e'
  split at e'
  · rename_i h1 e1
    refine ⟨ι, σ, h, sr, rs, true, h1, e1, fun ι1 H1 to1 => ?_⟩
    dsimp only
    rw [if_pos rfl]
    exact ⟨ι1, σ, h1, to1.sr, to1.repS sr rs, fl, σ', h', e', fun ι2 H2 ρ2 to2 rs2 => k _ _ _ (to1.trans to2) rs2⟩
  · rename_i h1 e1
    refine ⟨ι, σ, h, sr, rs, false, h1, e1, fun ι1 H1 to1 => ?_⟩
    dsimp only
    rw [if_neg (by decide)]
    exact ⟨ι1, σ, h1, to1.sr, to1.repS sr rs, fl, σ', h', e', fun ι2 H2 ρ2 to2 rs2 => k _ _ _ (to1.trans to2) rs2⟩
  · cases e'
theorem rds_whl {t : IE} {b : List IS} {D : Ends} {ρ : L2.St} {H : Hp} (h : rdS C (step g r) l (.whl t b) D ρ H) : tWhile (rdT C r l t) (rdSs C r l b) D ρ H := by
  obtain ⟨ι, σ, h, sr, rs, fl, σ', h', e', k⟩ := h
  replace e' : whlT r l t b loopMax σ h = some (fl, σ', h') := e'
  refine ⟨fun m ρ2 H2 => ∃ ι2 σ2 h2, To C ι H ι2 h2 H2 ∧ RepS C.K H2 ι2 σ2 ρ2 ∧ whlT r l t b m σ2 h2 = some (fl, σ', h'), ⟨loopMax, ι, σ, h, To.refl sr, rs, e'⟩, ?_⟩
  rintro m ρ2 H2 ⟨ι2, σ2, h2, to2, rs2, e⟩
  cases m with
  | zero => cases e
  | succ m =>
    simp only [whlT] at e
    split at e
    · rename_i h3 e3
      refine ⟨ι2, σ2, h2, to2.sr, rs2, true, h3, e3, fun ι3 H3 to3 => ?_⟩
      dsimp only
      rw [if_pos rfl]
      refine ⟨fun ρ4 H4 => ∃ ι2 σ2 h2, To C ι H ι2 h2 H4 ∧ RepS C.K H4 ι2 σ2 ρ4 ∧ whlT r l t b m σ2 h2 = some (fl, σ', h'), fun ρ4 H4 q => ⟨m, Nat.lt_succ_self _, q⟩, ?_⟩
      split at e
      · rename_i σ4 h4 e4
        exact ⟨ι3, σ2, h3, to3.sr, to3.repS to2.sr rs2, .nx, σ4, h4, e4, fun ι4 H4 ρ4 to4 rs4 => ⟨ι4, σ4, h4, (to2.trans to3).trans to4, rs4, e⟩⟩
      · rename_i σ4 h4 e4
        exact ⟨ι3, σ2, h3, to3.sr, to3.repS to2.sr rs2, .ct, σ4, h4, e4, fun ι4 H4 ρ4 to4 rs4 => ⟨ι4, σ4, h4, (to2.trans to3).trans to4, rs4, e⟩⟩
      · rename_i σ4 h4 e4
        cases e
        exact ⟨ι3, σ2, h3, to3.sr, to3.repS to2.sr rs2, .bk, _, _, e4, fun ι4 H4 ρ4 to4 rs4 => k _ _ _ ((to2.trans to3).trans to4) rs4⟩
      · rename_i v σ4 h4 e4
        cases e
        exact ⟨ι3, σ2, h3, to3.sr, to3.repS to2.sr rs2, .rt v, _, _, e4, fun ι4 H4 ρ4 to4 rs4 => k _ _ _ ((to2.trans to3).trans to4) rs4⟩
      · cases e
    · rename_i h3 e3
      cases e
      refine ⟨ι2, _, h2, to2.sr, rs2, false, _, e3, fun ι3 H3 to3 => ?_⟩
      dsimp only
      rw [if_neg (by decide)]
      exact k _ _ _ (to2.trans to3) (to3.repS to2.sr rs2)
    · cases e
theorem for_rd {tg : Tg} {it : II} {b : List IS} {D : Ends} {ρ : L2.St} {H : Hp} {ι : List Addr} {σ σ' : Sg} {h h1 h' : Hi} {src : Src} {fl : Fl} (sr : SR C ι h H) (rs : RepS C.K H ι σ ρ) (e1 : srcI r l it σ h = some (src, h1))
    (e' : forT r l src tg b loopMax 0 σ h1 = some (fl, σ', h')) (k : ∀ ι' H' ρ', To C ι H ι' h' H' → RepS C.K H' ι' σ' ρ' → EndsAt C.K D fl ι' ρ' H') : tFor (rdI C r l it) (tg2 C.K tg) (rdSs C r l b) D ρ H := by
  refine ⟨ι, σ, h, sr, rs, src, h1, e1, fun ι1 H1 J to1 sa => ?_⟩
  refine ⟨fun i m ρ2 H2 => ∃ ι2 σ2 h2, To C ι1 H1 ι2 h2 H2 ∧ RepS C.K H2 ι2 σ2 ρ2 ∧ forT r l src tg b m i σ2 h2 = some (fl, σ', h'), ⟨loopMax, ι1, σ, h1, To.refl to1.sr, to1.repS sr rs, e'⟩, ?_⟩
  rintro i m ρ2 H2 ⟨ι2, σ2, h2, to2, rs2, e⟩
  have sa2 := sa.to to1.sr to2
  cases m with
  | zero => cases e
  | succ m =>
    simp only [forT] at e
    obtain ⟨nx1, nx2⟩ := next_ok (i := i) to2.sr sa2
    split at e
    · cases e
    · rename_i en
      cases e
      exact .inl ⟨nx1 en, k _ _ _ (to1.trans to2) rs2⟩
    · rename_i t en
      obtain ⟨go, yl⟩ := nx2 t en
      split at e
      · cases e
      · rename_i σ3 eb
        refine .inr ⟨go, fun ρ4 H4 => ∃ ι2 σ2 h2, To C ι1 H1 ι2 h2 H4 ∧ RepS C.K H4 ι2 σ2 ρ4 ∧ forT r l src tg b m (i + 1) σ2 h2 = some (fl, σ', h'), fun ρ4 H4 q => ⟨m, Nat.lt_succ_self _, q⟩, fun x H' y => ?_⟩
        obtain ⟨to3, rx⟩ := yl x H' y
        refine bindT_ok C.K tg H' ι2 t x _ σ3 _ _ eb rx (to3.repS to2.sr rs2) fun ρ' rs4 o => ?_
        split at e
        · rename_i σ4 h4 e4
          exact ⟨ι2, σ3, h2, to3.sr, rs4, .nx, σ4, h4, e4, fun ι4 H4 ρ4 to4 rs4 => ⟨ι4, σ4, h4, (to2.trans to3).trans to4, rs4, e⟩⟩
        · rename_i σ4 h4 e4
          exact ⟨ι2, σ3, h2, to3.sr, rs4, .ct, σ4, h4, e4, fun ι4 H4 ρ4 to4 rs4 => ⟨ι4, σ4, h4, (to2.trans to3).trans to4, rs4, e⟩⟩
        · rename_i σ4 h4 e4
          cases e
          exact ⟨ι2, σ3, h2, to3.sr, rs4, .bk, _, _, e4, fun ι4 H4 ρ4 to4 rs4 => k _ _ _ (((to1.trans to2).trans to3).trans to4) rs4⟩
        · rename_i v σ4 h4 e4
          cases e
          exact ⟨ι2, σ3, h2, to3.sr, rs4, .rt v, _, _, e4, fun ι4 H4 ρ4 to4 rs4 => k _ _ _ (((to1.trans to2).trans to3).trans to4) rs4⟩
        · cases e
theorem rds_fr {tg : Tg} {it : II} {b : List IS} {D : Ends} {ρ : L2.St} {H : Hp} (h : rdS C (step g r) l (.fr tg it b) D ρ H) :
    tFor (rdI C r l it) (tg2 C.K tg) (rdSs C r l b) D ρ H ∨ tFor (rdI C r l (lockII it)) (tg2 C.K tg) (rdSs C r l b) D ρ H ∨ tLock (tFor (rdI C r l (lockII it)) (tg2 C.K tg) (rdSs C r l b)) D ρ H := by
  obtain ⟨ι, σ, h, sr, rs, fl, σ', h', e, k⟩ := h
  replace e : stepS g r l (.fr tg it b) σ h = some (fl, σ', h') := e
  simp only [stepS] at e
  have plain : ∀ ii, (match srcI r l ii σ h with
      | some (src, h1) => forT r l src tg b loopMax 0 σ h1
      | none => none) = some (fl, σ', h') → tFor (rdI C r l ii) (tg2 C.K tg) (rdSs C r l b) D ρ H := fun ii e => by
    split at e
    · rename_i src h1 e1
      exact for_rd sr rs e1 e k
    · cases e
  split at e
  · exact .inl (plain _ e)
  · rename_i a ea
    split at e
    · rename_i kvs hk
      split at e
      · rename_i src h1 e1
        split at e
        · rename_i fl2 σ2 h2 e2
          split at e
          · rename_i kvs' e3
            cases e
            obtain ⟨ad, hi⟩ := sr.addr hk
            obtain ⟨ws, ha, rk⟩ := sr.ok a ad _ hi hk
            refine .inr (.inr ⟨ad, .dK ws, ha, trivial, fun od => ?_⟩)
            have toL : To C ι H ι (h.set a (.lk kvs)) (upd H ad (.frz od (.dK ws))) := To.lock sr hi ha rk
            refine for_rd toL.sr (toL.repS sr rs) e1 e2 fun ι' H' ρ' to rs' => ?_
            obtain ⟨q, toU⟩ := To.unlock sr hi ha to e3
            have kt : KeepT C.K H' (upd H' ad (.dK ws)) := ⟨fun b xs r => by
              rcases r with (r | ⟨ob, r⟩) | r
              · exact .inl (.inl (by rw [upd_ne (fun z => by rw [z, q] at r; cases r)]; exact r))
              · exact .inl (.inr ⟨ob, by rw [upd_ne (fun z => by rw [z, q] at r; cases r)]; exact r⟩)
              · exact .inr r, fun b o xs r => by rw [upd_ne (fun z => by rw [z, q] at r; cases r)]; exact r⟩
            have rsU : RepS C.K (upd H' ad (.dK ws)) ι' σ' ρ' := ⟨rs'.len, fun i t e => let ⟨v, e1, rv⟩ := rs'.at_ i t e; ⟨v, e1, rv.at_ kt fun _ _ e => e⟩⟩
            have kk := k ι' (upd H' ad (.dK ws)) ρ' toU rsU
            cases fl with
            | nx => exact ⟨q, kk⟩
            | bk => exact ⟨q, kk⟩
            | ct => exact ⟨q, kk⟩
            | rt t => exact fun v rv => ⟨q, kk v (rv.at_ kt fun _ _ e => e)⟩
          · cases e
        · cases e
      · cases e
    · exact .inr (.inl (plain _ e))
    · exact .inl (plain _ e)
end
end Gn

/-! The engine is right, part 13: parallel assignment. -/
namespace Gn
open PySem PySem.Spec PyProof.Rows L2 RZ

section
variable {C : Tx} {g : Gt} {r : Rec} {n l : Nat} {c : SC} {X : Cx}
def tgT (C : Tx) (r : Rec) (l : Nat) : Tt → TG
  | .nm i => gName i
  | .sub o i => gSub (rdE C r l o) (rdE C r l i) (rSet C)
  | .fld d o k => gFld C r l d o k
def tgTs (C : Tx) (r : Rec) (l : Nat) : List Tt → TGs
  | [] => gNil
  | g :: gs => gCons (tgT C r l g) (tgTs C r l gs)
theorem parT_len {r : Rec} {l : Nat} : ∀ (gs : List Tt) (ts : List T) (σ : Sg) (h : Hi) (p : Sg × Hi), parT r l gs ts σ h = some p → ts.length = gs.length := by
  intro gs
  induction gs with
  | nil => intro ts σ h p e; cases ts with
    | nil => rfl
    | cons _ _ => simp only [parT] at e; cases e
  | cons g gs ih =>
    intro ts σ h p e
    cases ts with
    | nil => cases g <;> (simp only [parT] at e; cases e)
    | cons t ts =>
      cases g with
      | nm i =>
        simp only [parT] at e
        split at e
        · simp [ih _ _ _ _ e]
        · cases e
      | sub o i =>
        simp only [parT] at e
        split at e
        · split at e
          · split at e
            · simp [ih _ _ _ _ e]
            · cases e
          · cases e
        · cases e
      | fld d o i =>
        simp only [parT] at e
        split at e
        · split at e
          · simp [ih _ _ _ _ e]
          · cases e
        · cases e
theorem par_rd {σ' : Sg} {h' : Hi} {Qd : L2.St → Hp → Prop} : ∀ (gs : List Tt) (ts : List T) (vs : List V) (ι : List Addr) (σ : Sg) (h : Hi) (H : Hp) (ρ : L2.St), SR C ι h H → RepS C.K H ι σ ρ → RepL C.K H ι ts vs → parT r l gs ts σ h = some (σ', h') →
    (∀ ι' H' ρ', To C ι H ι' h' H' → RepS C.K H' ι' σ' ρ' → Qd ρ' H') → tgTs C r l gs vs ρ H Qd ∧ vs.length = gs.length
  | [], [], vs, ι, σ, h, H, ρ, sr, rs, rl, e, k => by
    cases rl
    simp only [parT] at e
    cases e
    exact ⟨⟨rfl, k _ _ _ (To.refl sr) rs⟩, rfl⟩
  | [], _ :: _, _, _, _, _, _, _, _, _, _, e, _ => by simp only [parT] at e; cases e
  | .nm i :: gs, [], _, _, _, _, _, _, _, _, _, e, _ => by simp only [parT] at e; cases e
  | .sub o i :: gs, [], _, _, _, _, _, _, _, _, _, e, _ => by simp only [parT] at e; cases e
  | .fld d o i :: gs, [], _, _, _, _, _, _, _, _, _, e, _ => by simp only [parT] at e; cases e
  | .nm i :: gs, t :: ts, _, ι, σ, h, H, ρ, sr, rs, rl, e, k => by
    cases rl with
    | @cons _ v _ vs r1 r2 =>
      simp only [parT] at e
      split at e
      · rename_i σ1 eb
        have ih := par_rd gs ts vs ι σ1 h H _ sr (setS_ok eb r1 rs) r2 e k
        exact ⟨⟨v, vs, rfl, ih.1⟩, by rw [List.length_cons, ih.2, List.length_cons]⟩
      · cases e
  | .sub o i :: gs, t :: ts, _, ι, σ, h, H, ρ, sr, rs, rl, e, k => by
    cases rl with
    | @cons _ v _ vs r1 r2 =>
      simp only [parT] at e
      split at e
      · rename_i x h1 e1
        split at e
        · rename_i y h2 e2
          split at e
          · rename_i h3 e3
            have len : vs.length = gs.length := by
              rw [r2.length]; exact parT_len _ _ _ _ _ e
            refine ⟨⟨v, vs, rfl, ι, σ, h, sr, rs, x, h1, e1, fun ι1 H1 v1 to1 q1 => ⟨ι1, σ, h1, to1.sr, to1.repS sr rs, y, h2, e2, fun ι2 H2 v2 to2 q2 => ⟨ι2, h2, x, y, t, h3, to2.sr, to2.rep to1.sr q1, q2, to2.rep to1.sr (to1.rep sr r1), e3, fun H3 to3 => ?_⟩⟩⟩, by rw [List.length_cons, len, List.length_cons]⟩
            have rs3 := to3.repS to2.sr (to2.repS to1.sr (to1.repS sr rs))
            exact (par_rd gs ts vs ι2 σ h3 H3 ρ to3.sr rs3 (to3.repL to2.sr (to2.repL to1.sr (to1.repL sr r2))) e fun ι' H' ρ' to q => k _ _ _ (((to1.trans to2).trans to3).trans to) q).1
          · cases e
        · cases e
      · cases e
  | .fld d o i :: gs, t :: ts, _, ι, σ, h, H, ρ, sr, rs, rl, e, k => by
    cases rl with
    | @cons _ v _ vs r1 r2 =>
      simp only [parT] at e
      split at e
      · rename_i x h1 e1
        split at e
        · rename_i h2 e2
          refine ⟨⟨v, vs, rfl, ι, σ, h, sr, rs, x, h1, e1, fun ι1 H1 v1 to1 q1 => ⟨ι1, h1, x, t, h2, to1.sr, q1, to1.rep sr r1, e2, fun H2 to2 => ?_⟩⟩, by rw [List.length_cons, r2.length, parT_len _ _ _ _ _ e, List.length_cons]⟩
          have rs2 := to2.repS to1.sr (to1.repS sr rs)
          exact (par_rd gs ts vs ι1 σ h2 H2 ρ to2.sr rs2 (to2.repL to1.sr (to1.repL sr r2)) e fun ι' H' ρ' to q => k _ _ _ ((to1.trans to2).trans to) q).1
        · cases e
      · cases e
theorem parN_cons {t : Expr} {ts : List Expr} {ln : Nat} {f : Expr → Option Str} (hf : (ts.filterMap f).length ≤ ts.length) (h : ((t :: ts).filterMap f).length = (t :: ts).length) : ∃ y, f t = some y ∧ (ts.filterMap f).length = ts.length := by
  rw [List.filterMap_cons] at h
  cases e : f t with
  | none => rw [e] at h; simp at h; omega
  | some y => rw [e] at h; exact ⟨y, rfl, by simpa using h⟩
def parF (c : SC) (ln : Nat) : Expr → Option Str
  | .Name id pos => if c.sc.names.lookup id == some .local && pos.line == ln then some id else none
  | _ => none
theorem parF_ok {c : SC} {ln : Nat} {t : Expr} {y : Str} (h : parF c ln t = some y) : ∃ p, t = .Name y p ∧ c.sc.names.lookup y = some .local := by
  unfold parF at h
  split at h
  · split at h
    · rename_i hc
      cases h
      have := (Bool.and_eq_true_iff.mp hc).1
      exact ⟨_, rfl, by simpa using this⟩
    · cases h
  · cases h
theorem parN_eq (c : SC) (ts : List Expr) : parN c ts = ts.filterMap (parF c ((ts.head?.map (·.pos.line)).getD 0)) := rfl
theorem sw_ok (x : XOk g c l X) (hk : c.sc.kind = .function) {ts vs : List Expr} {k k2 : Nat} {p p2 : Pos} (h2 : ts.length = 2 ∨ ts.length = 3) (hl : vs.length = ts.length) (hn : vs.all noStar = true) {b : Bool} (hp : parK c ts vs = some b) :
    swappedStores [.Tuple ts k p] (.Tuple vs k2 p2) X.env = pure (if b = true then some (parN c ts) else none) := by
  have hb : X.env.blockKind = .function := by unfold Env.blockKind; rw [x.sc, hk]; rfl
  have hst : (vs.any fun | .Starred .. => true | _ => false) = false := by
    rw [List.any_eq_false]
    intro e he
    have := List.all_eq_true.mp hn e he
    cases e <;> first | exact Bool.false_ne_true | cases this
  have hnm : ts.filterMap (fun | .Name id pos => if X.env.kindOf id == some .local && pos.line == (ts.head?.map (·.pos.line)).getD 0 then some id else none | _ => none) = parN c ts := by
    unfold parN Env.kindOf
    rw [x.sc] <;> rfl
  have hlen : (!(ts.length == 2 || ts.length == 3) || vs.length != ts.length || X.env.blockKind != .function) = false := by
    rw [hb, hl]
    rcases h2 with h | h <;> rw [h] <;> rfl
  unfold parK at hp
  unfold swappedStores
  simp only [hlen, Bool.false_eq_true, if_false]
  refine (if_neg (Bool.eq_false_iff.mp hst)).trans ?_
  generalize hN : List.filterMap _ ts = N'
  have e : N' = parN c ts := by rw [← hN]; exact hnm
  rw [e]
  cases h1 : ((parN c ts).length != ts.length || (parN c ts).eraseDups.length != (parN c ts).length) with
  | true => rw [h1] at hp; cases hp; rfl
  | false =>
    rw [h1] at hp
    simp only [Bool.false_eq_true, if_false, cond_false] at hp ⊢
    cases h3 : vs.all (foldedForSure 8) with
    | true => rw [h3] at hp; cases hp; rfl
    | false =>
      rw [h3] at hp
      simp only [Bool.false_eq_true, if_false, cond_false] at hp ⊢
      cases h4 : vs.all (constantsAlone 8) with
      | true => rw [h4] at hp; cases hp
      | false => rw [h4] at hp; cases hp; rfl
theorem cTt_name {f : Nat} {y : Str} {p : Pos} {ga : Tt} (h : cTt f c (.Name y p) = some ga) : ∃ i, ga = .nm i ∧ c.N[i]? = some y := by
  replace h : (match cTgN c y with | some i => some (Tt.nm i) | none => none) = some ga := h
  split at h
  · rename_i i hi
    cases h
    exact ⟨i, rfl, (cTgN_ok hi).2⟩
  · cases h
/-- the names of a swapped store -/
theorem parN2 {a b : Expr} {ga gb : Tt} {f : Nat} (h : (parN c [a, b]).length = 2) (ha : cTt f c a = some ga) (hb : cTt f c b = some gb) : ∃ y z p q i j, a = .Name y p ∧ b = .Name z q ∧ c.sc.names.lookup y = some .local ∧ c.sc.names.lookup z = some .local ∧ parN c [a, b] = [y, z] ∧ c.N[i]? = some y ∧ c.N[j]? = some z ∧ ga = .nm i ∧ gb = .nm j := by
  rw [parN_eq] at h ⊢
  generalize ((([a, b] : List Expr).head?.map (·.pos.line)).getD 0) = ln at *
  rw [List.filterMap_cons] at h ⊢
  cases e1 : parF c ln a with
  | none =>
    rw [e1] at h
    have := List.length_filterMap_le (parF c ln) [b]
    simp at h this
    omega
  | some y =>
    rw [e1] at h
    rw [List.filterMap_cons] at h ⊢
    cases e2 : parF c ln b with
    | none => rw [e2] at h; simp at h
    | some z =>
      obtain ⟨p, rfl, hy⟩ := parF_ok e1
      obtain ⟨q, rfl, hz⟩ := parF_ok e2
      obtain ⟨i, rfl, hi⟩ := cTt_name ha
      obtain ⟨j, rfl, hj⟩ := cTt_name hb
      exact ⟨y, z, p, q, i, j, rfl, rfl, hy, hz, rfl, hi, hj, rfl, rfl⟩
theorem parN3 {a b d : Expr} {ga gb gd : Tt} {f : Nat} (h : (parN c [a, b, d]).length = 3) (ha : cTt f c a = some ga) (hb : cTt f c b = some gb) (hd : cTt f c d = some gd) : ∃ y z w p q u i j m, a = .Name y p ∧ b = .Name z q ∧ d = .Name w u ∧ c.sc.names.lookup y = some .local ∧ c.sc.names.lookup z = some .local ∧ c.sc.names.lookup w = some .local ∧ parN c [a, b, d] = [y, z, w] ∧
    c.N[i]? = some y ∧ c.N[j]? = some z ∧ c.N[m]? = some w ∧ ga = .nm i ∧ gb = .nm j ∧ gd = .nm m := by
  rw [parN_eq] at h ⊢
  generalize ((([a, b, d] : List Expr).head?.map (·.pos.line)).getD 0) = ln at *
  rw [List.filterMap_cons] at h ⊢
  cases e1 : parF c ln a with
  | none =>
    rw [e1] at h
    have := List.length_filterMap_le (parF c ln) [b, d]
    simp only [List.length_cons, List.length_nil] at h this
    omega
  | some y =>
    rw [e1] at h
    rw [List.filterMap_cons] at h ⊢
    cases e2 : parF c ln b with
    | none =>
      rw [e2] at h
      have := List.length_filterMap_le (parF c ln) [d]
      simp only [List.length_cons, List.length_nil] at h this
      omega
    | some z =>
      rw [e2] at h
      rw [List.filterMap_cons] at h ⊢
      cases e3 : parF c ln d with
      | none => rw [e3] at h; simp at h
      | some w =>
        obtain ⟨p, rfl, hy⟩ := parF_ok e1
        obtain ⟨q, rfl, hz⟩ := parF_ok e2
        obtain ⟨u, rfl, hw⟩ := parF_ok e3
        obtain ⟨i, rfl, hi⟩ := cTt_name ha
        obtain ⟨j, rfl, hj⟩ := cTt_name hb
        obtain ⟨m, rfl, hm⟩ := cTt_name hd
        exact ⟨y, z, w, p, q, u, i, j, m, rfl, rfl, rfl, hy, hz, hw, rfl, hi, hj, hm, rfl, rfl, rfl⟩
theorem parK_len {ts vs : List Expr} (h : parK c ts vs = some true) : (parN c ts).length = ts.length := by
  unfold parK at h
  cases h1 : ((parN c ts).length != ts.length || (parN c ts).eraseDups.length != (parN c ts).length) with
  | true => rw [h1] at h; cases h
  | false =>
    have := (Bool.or_eq_false_iff.mp h1).1
    simpa using this
end
end Gn

/-! The engine is right, part 14: every statement. -/
namespace Gn
open PySem PySem.Spec PyProof.Rows L2 RZ

structure SndS (g : Gt) (r : Rec) : Prop where
  s : ∀ (f : Nat) (c : SC) (l : Nat) (X : Cx) (st : Stmt), XOk g c l X → c.sc.kind = .function → PS X st (rdS X.tx r l (cS f c st))
  ss : ∀ (f : Nat) (c : SC) (l : Nat) (X : Cx) (sts : List Stmt), XOk g c l X → c.sc.kind = .function → PSs X sts (rdSs X.tx r l (sts.map (cS f c)))
section
variable {C : Tx} {g : Gt} {r : Rec} {n l : Nat} {c : SC} {X : Cx}
theorem sw_name (x : XOk g c l X) (hk : c.sc.kind = .function) {e : Expr} {y : Str} {q : Pos} {ln : Nat} : swapsWith e (some (.Name y q)) ln X.env = pure false ∨
    (swapsWith e (some (.Name y q)) ln X.env = pure true ∧ X.env.scope.names.lookup y = some .local ∧ noCmp e = false) := by
  have hb : X.env.blockKind = .function := by unfold Env.blockKind; rw [x.sc, hk]; rfl
  cases hc : noCmp e with
  | true =>
    left
    cases e <;> first | rfl | cases hc
  | false =>
    have key : ∀ (scope : Scope), swapsWith e (some (.Name y q)) ln X.env = pure (X.env.blockKind == .function && X.env.kindOf y == some .local && q.line == e.pos.line && !(scope.names.any fun (n, k) => n == y && (k == .local || k == .cell))) →
        swapsWith e (some (.Name y q)) ln X.env = pure false ∨ (swapsWith e (some (.Name y q)) ln X.env = pure true ∧ X.env.scope.names.lookup y = some .local ∧ false = false) := by
      intro scope h
      cases hv : (X.env.blockKind == .function && X.env.kindOf y == some .local && q.line == e.pos.line && !(scope.names.any fun (n, k) => n == y && (k == .local || k == .cell))) with
      | false => rw [hv] at h; exact .inl h
      | true =>
        rw [hv] at h
        refine .inr ⟨h, ?_, rfl⟩
        have h1 := (Bool.and_eq_true_iff.mp (Bool.and_eq_true_iff.mp (Bool.and_eq_true_iff.mp hv).1).1).2
        exact eq_of_beq h1
    cases e with
    | ListComp elt gens scope p => exact key scope rfl
    | SetComp elt gens scope p => exact key scope rfl
    | DictComp k v gens scope p => exact key scope rfl
    | _ => cases hc
theorem ps_setW {s : Stmt} {i : Nat} {te : TE} {t : TE} {t2 : TE} (h1 : PS X s (tAsg t (gName i))) (h2 : PS X s (tAsg t2 (gName i))) (w : ∀ ρ H Q, te ρ H Q → t ρ H Q ∨ tLockE t2 ρ H Q) : PS X s (tAsg te (gName i)) := by
  refine psW (PS.or h1 (ps_lock h2)) fun D ρ H q => ?_
  rcases w _ _ _ q with z | ⟨d, u, e1, e2, z⟩
  · exact .inl z
  · exact .inr ⟨d, u, e1, e2, fun od => z od⟩
theorem snd_asg (x : XOk g c l X) (hk : c.sc.kind = .function) (f : Nat) {y : Str} {q p : Pos} {i : Nat} {e : Expr} (hi : cTgN c y = some i) : PS X (.Assign [.Name y q] e p) (rdS X.tx (step g (run g n)) l (.asg (.nm i) (cE f c e))) := by
  obtain ⟨hst, hN⟩ := cTgN_ok hi
  have hNx : X.N[i]? = some y := by rw [x.N]; exact hN
  refine psW (t := tAsg (rdE X.tx (run g n) l (cE f c e)) (gName i)) ?_ fun D ρ H q => rds_asg q
  rcases sw_name x hk (e := e) (y := y) (q := q) (ln := p.line) with hs | ⟨hs, hloc, hc⟩
  · exact ps_set x.nd hNx (x.loc hst) ((snd_all g n).e f c l X e x) hs (x.st _ hst)
  · have stuck : ∀ {ie}, (∀ l σ h, (run g n).e l ie σ h = none) → PS X (.Assign [.Name y q] e p) (tAsg (rdE X.tx (run g n) l ie) (gName i)) := fun hn => ⟨fun pins s σ H D I q => by
      obtain ⟨_, _, _, _, _, _, _, e, _⟩ := q
      rw [hn] at e; cases e⟩
    cases n with
    | zero => exact stuck fun _ _ _ => rfl
    | succ m =>
      have nbad : PS X (.Assign [.Name y q] e p) (tAsg (rdE X.tx (run g (m + 1)) l .bad) (gName i)) := stuck fun _ _ _ => rfl
      have S := snd_all g m
      cases f with
      | zero => exact nbad
      | succ f =>
        cases e with
        | ListComp elt gens scope pos =>
          unfold cE
          simp only
          split
          · rename_i tg it ifs
            cases hb : blkC c.N c.sc scope (ownOf c scope) && noSet it && Nat.ble ifs.length 1 with
            | false => exact nbad
            | true =>
              obtain ⟨hb, hl⟩ := Bool.and_eq_true_iff.mp hb
              obtain ⟨hb, hns⟩ := Bool.and_eq_true_iff.mp hb
              simp only [cond_true]
              split
              · rename_i gt hg
                cases hsb : subsetN gt.slots ((ownOf c scope).map (·.2)) with
                | false => exact nbad
                | true =>
                  have h2 := (snd_lc S x f (elt := elt) (pos := pos) hb hns hl hg).2
                  exact ps_setW (h2 _ (.inl rfl) i y q p hNx hloc hs) (h2 _ (.inr rfl) i y q p hNx hloc hs) fun ρ H Q z => rd_lc (subsetN_ok hsb) z
              · exact nbad
          · rename_i tg it ifs tg1 it1 ifs1
            cases hb : blkC c.N c.sc scope (ownOf c scope) && noSet it && noSet it1 && Nat.ble ifs.length 1 && Nat.ble ifs1.length 1 with
            | false => exact nbad
            | true =>
              obtain ⟨hb, hl1⟩ := Bool.and_eq_true_iff.mp hb
              obtain ⟨hb, hl⟩ := Bool.and_eq_true_iff.mp hb
              obtain ⟨hb, hns1⟩ := Bool.and_eq_true_iff.mp hb
              obtain ⟨hb, hns⟩ := Bool.and_eq_true_iff.mp hb
              simp only [cond_true]
              split
              · rename_i gt gt1 hg hg1
                cases hsb : subsetN gt.slots ((ownOf c scope).map (·.2)) && subsetN gt1.slots ((ownOf c scope).map (·.2)) with
                | false => exact nbad
                | true =>
                  obtain ⟨hsb, hsb1⟩ := Bool.and_eq_true_iff.mp hsb
                  have xb := x.blk scope
                  refine psW (ps_setLc2 (vs1 := gt1.slots) (g := tg2 X.K gt) (g1 := tg2 X.K gt1) (wi1 := rdI X.tx (run g m) l (cI f (sub c scope) (isTupE tg1) it1)) (te := rdE X.tx (run g m) l (cE f (sub c scope) elt)) (tt := rdTs X.tx (run g m) l (ifs.map (cT f (sub c scope)))) (tt1 := rdTs X.tx (run g m) l (ifs1.map (cT f (sub c scope)))) x.calm x.nd hNx hloc hs (snd_I S x f tg it).1 (x.bk hb) (subsetN_ok hsb1) (fun s H D cl fp => pg2 (xb s H D cl fp) hg) (fun s H D cl fp => pts_any (fun e => S.t f (sub c scope) l _ e (xb s H D cl fp)) hl) (fun s H D cl fp => (snd_I S (xb s H D cl fp) f tg1 it1).1)
                    (fun s H D cl fp => pg2 (xb s H D cl fp) hg1) (fun s H D cl fp => pts_any (fun e => S.t f (sub c scope) l _ e (xb s H D cl fp)) hl1) (fun s H D cl fp => S.e f (sub c scope) l _ elt (xb s H D cl fp)) (noSet_ok hns _) (fun env => noSet_ok hns1 env)) fun D ρ H z => ?_
                  exact rd_lc2 (subsetN_ok hsb) z
              · exact nbad
          · exact nbad
        | DictComp k v gens scope pos =>
          unfold cE
          simp only
          split
          · rename_i tg it ifs
            cases hb : blkC c.N c.sc scope (ownOf c scope) && noSet it && Nat.ble ifs.length 1 with
            | false => exact nbad
            | true =>
              obtain ⟨hb, hl⟩ := Bool.and_eq_true_iff.mp hb
              obtain ⟨hb, hns⟩ := Bool.and_eq_true_iff.mp hb
              simp only [cond_true]
              split
              · rename_i gt hg
                cases hsb : subsetN gt.slots ((ownOf c scope).map (·.2)) with
                | false => exact nbad
                | true =>
                  have xb := x.blk scope
                  refine psW (ps_setDcG (put := rPut X.tx) (g := tg2 X.K gt) (tk := rdE X.tx (run g m) l (cE f (sub c scope) k)) (tv := rdE X.tx (run g m) l (cE f (sub c scope) v)) (tt := rdTs X.tx (run g m) l (ifs.map (cT f (sub c scope)))) x.calm x.nd hNx hloc hs (snd_I S x f tg it).1 (x.bk hb) (fun s H D cl fp => pg2 (xb s H D cl fp) hg) (fun s H D cl fp => pts_any (fun e => S.t f (sub c scope) l _ e (xb s H D cl fp)) hl) (fun s H D cl fp => S.e f (sub c scope) l _ k (xb s H D cl fp)) (fun s H D cl fp => S.e f (sub c scope) l _ v (xb s H D cl fp)) (fun s H D cl fp => putR_ok (xb s H D cl fp).hu) (noSet_ok hns _)) fun D ρ H z => ?_
                  exact rd_dc (subsetN_ok hsb) z
              · exact nbad
          · exact nbad
        | SetComp elt gens scope pos => exact nbad
        | _ => cases hc
theorem pg_subG (x : XOk g c l X) (S : SndE g r) (f : Nat) {o i : Expr} {pos : Pos} (hs : noSlc i = true) : PG X (.Subscript o i pos) (gSub (rdE X.tx r l (cE f c o)) (rdE X.tx r l (cE f c i)) (rSet X.tx)) :=
  pg_sub (S.e f c l X o x) (S.e f c l X i x) (set_ok x.hu) (by cases i <;> first | exact fun _ => rfl | cases hs)
theorem pg_tt (x : XOk g c l X) (S : SndE g r) (f : Nat) {e : Expr} {gt : Tt} (h : cTt f c e = some gt) : PG X e (tgT X.tx r l gt) ∧ noStar e = true := by
  unfold cTt at h
  split at h
  · rename_i y p
    split at h
    · rename_i i hi
      cases h
      obtain ⟨h1, h2⟩ := cTgN_ok hi
      exact ⟨pg_name x.nd (by rw [x.N]; exact h2) (x.loc h1) (x.st _ h1), rfl⟩
    · cases h
  · rename_i o i p
    obtain ⟨hs, h⟩ := bif_some h
    cases h
    exact ⟨pg_subG x S f hs, rfl⟩
  · rename_i o a p
    split at h
    · rename_i q hq
      cases h
      exact ⟨pg_fld x hq (S.e f c l X o x), rfl⟩
    · cases h
  · cases h
theorem pgs_tt (x : XOk g c l X) (S : SndE g r) (f : Nat) : ∀ {es : List Expr} {gs : List Tt}, mapO (cTt f c) es = some gs → PGs X es (tgTs X.tx r l gs) ∧ (assignEach es X.env).length = gs.length ∧ (assignEach es X.env).findIdx? (·.1) = none
  | [], gs, e => by cases e; exact ⟨pgs_nil, rfl, rfl⟩
  | e :: es, gs, h => by
    unfold mapO at h
    split at h
    · rename_i b hb
      split at h
      · rename_i bs hbs
        cases h
        obtain ⟨h1, h2⟩ := pg_tt x S f hb
        obtain ⟨i1, i2, i3⟩ := pgs_tt x S f hbs
        have ha := asg_cons (es := es) (env := X.env) h2
        refine ⟨pgs_cons h1 i1 (by rw [ha]; rfl), by rw [ha, List.length_cons, i2, List.length_cons], ?_⟩
        rw [ha, List.findIdx?_cons]
        simp only [Bool.false_eq_true, if_false, i3]
        rfl
      · cases h
    · cases h
theorem mapO_len {α β : Type} {f : α → Option β} : ∀ {as : List α} {bs : List β}, mapO f as = some bs → bs.length = as.length
  | [], _, e => by cases e; rfl
  | a :: as, bs, e => by
    unfold mapO at e
    split at e
    · split at e
      · rename_i h; cases e; simp [mapO_len h]
      · cases e
    · cases e
theorem snd_par (x : XOk g c l X) (hk : c.sc.kind = .function) (f : Nat) {ts es : List Expr} {k k2 : Nat} {q q2 p : Pos} {gs : List Tt} {b : Bool} (hn : es.all noStar = true) (hl : ts.length = es.length) (h23 : ts.length = 2 ∨ ts.length = 3) (hg : mapO (cTt f c) ts = some gs) (hp : parK c ts es = some b) (hnd : b = true → ∀ is, allNm gs = some is → is.Nodup) :
    PS X (.Assign [.Tuple ts k q] (.Tuple es k2 q2) p) (rdS X.tx (step g (run g n)) l (.par gs (es.map (cE f c)))) := by
  have S := snd_all g n
  have hsw := sw_ok x hk (k := k) (k2 := k2) (p := q) (p2 := q2) h23 hl.symm hn hp
  have hgl := mapO_len hg
  have core : ∀ (D : Ends) (ρ : L2.St) (H : Hp), rdS X.tx (step g (run g n)) l (.par gs (es.map (cE f c))) D ρ H → rdA X.tx (run g n) l (es.map (cE f c)) ρ H fun vs H1 => vs.length = gs.length ∧ tgTs X.tx (run g n) l gs vs ρ H1 D.nx ∧ ∀ p, H1 p = none → tgTs X.tx (run g n) l gs vs ρ (upd H1 p (.tup vs)) D.nx := by
    intro D ρ H ⟨ι, σ, h, sr, rs, fl, σ', h', e, k⟩
    replace e : stepS g (run g n) l (.par gs (es.map (cE f c))) σ h = some (fl, σ', h') := e
    simp only [stepS] at e
    split at e
    · rename_i vts h1 e1
      split at e
      · rename_i σ1 h2 e2
        cases e
        refine ⟨ι, σ, h, sr, rs, vts, h1, e1, fun ι1 H1 vs to1 r1 => ?_⟩
        have rs1 := to1.repS sr rs
        obtain ⟨a1, a2⟩ := par_rd (Qd := D.nx) gs vts vs ι1 σ h1 H1 ρ to1.sr rs1 r1 e2 fun ι' H' ρ' to rs' => k _ _ _ (to1.trans to) rs'
        refine ⟨a2, a1, fun p hp => ?_⟩
        have toT := To.tup (C := X.tx) (xs := vs) to1.sr hp
        exact (par_rd (Qd := D.nx) gs vts vs ι1 σ h1 _ ρ toT.sr (toT.repS to1.sr rs1) (toT.repL to1.sr r1) e2 fun ι' H' ρ' to rs' => k _ _ _ ((to1.trans toT).trans to) rs').1
      · cases e
    · cases e
  cases b with
  | false =>
    obtain ⟨i1, i2, i3⟩ := pgs_tt x S f hg
    refine psW (ps_asg (pe_tup (S.a f c l X es x hn)) (pg_tup x.calm i1 i2 i3) (by cases es <;> rfl) hsw) fun D ρ H z => ?_
    obtain ⟨ι, σ, h, sr, rs, vts, h1, e1, kk⟩ := core _ _ _ z
    refine ⟨ι, σ, h, sr, rs, vts, h1, e1, fun ι1 H1 vs to1 r1 => ?_⟩
    obtain ⟨a1, a2, a3⟩ := kk ι1 H1 vs to1 r1
    have hsz := sizeLine_eq
    exact ⟨by omega, fun p hp => ⟨p, vs, rfl, .inl (.inl upd_same), a1, a3 p hp⟩⟩
  | true =>
    have hpl := parK_len hp
    match ts, h23, hpl, hg, hl with
    | [a, b], _, hpl, hg, hl =>
      simp only [mapO] at hg
      split at hg
      · rename_i ga ha
        split at hg
        · rename_i gs2 h2
          split at h2
          · rename_i gb hb
            cases h2
            cases hg
            obtain ⟨y, z, py, pz, i, j, rfl, rfl, hy, hz, hnm, hi, hj, rfl, rfl⟩ := parN2 hpl ha hb
            have nd := hnd rfl [i, j] rfl
            have hij : i ≠ j := by
              rw [List.nodup_cons] at nd
              intro e; exact nd.1 (by simp [e])
            match es, hl, hn, hsw, core with
            | [e1, e2], _, hn, hsw, core =>
              rw [if_pos rfl, hnm] at hsw
              refine psW (ps_par x.calm x.nd (by rw [x.N]; exact hi) (by rw [x.N]; exact hj) hij (by rw [x.sc]; exact hy) (by rw [x.sc]; exact hz) (S.a f c l X [e1, e2] x hn) hsw) fun D ρ H z => ?_
              obtain ⟨ι, σ, h, sr, rs, vts, h1, e1, kk⟩ := core _ _ _ z
              refine ⟨ι, σ, h, sr, rs, vts, h1, e1, fun ι1 H1 vs to1 r1 => ?_⟩
              obtain ⟨_, ⟨v, r', ev, v', r'', er, er', q⟩, _⟩ := kk ι1 H1 vs to1 r1
              exact ⟨v, v', by rw [ev, er, er'], q⟩
          · cases h2
        · cases hg
      · cases hg
    | [a, b, d], _, hpl, hg, hl =>
      simp only [mapO] at hg
      split at hg
      · rename_i ga ha
        split at hg
        · rename_i gs2 h2
          split at h2
          · rename_i gb hb
            split at h2
            · rename_i gs3 h3
              split at h3
              · rename_i gd hd
                cases h3
                cases h2
                cases hg
                obtain ⟨y, z, w, py, pz, pw, i, j, m, rfl, rfl, rfl, hy, hz, hw, hnm, hi, hj, hm, rfl, rfl, rfl⟩ := parN3 hpl ha hb hd
                have nd := hnd rfl [i, j, m] rfl
                have h3 : i ≠ j ∧ i ≠ m ∧ j ≠ m := by
                  rw [List.nodup_cons, List.nodup_cons] at nd
                  refine ⟨fun e => nd.1 (by simp [e]), fun e => nd.1 (by simp [e]), fun e => nd.2.1 (by simp [e])⟩
                match es, hl, hn, hsw, core with
                | [e1, e2, e3], _, hn, hsw, core =>
                  rw [if_pos rfl, hnm] at hsw
                  refine psW (ps_par3 x.calm x.nd (by rw [x.N]; exact hi) (by rw [x.N]; exact hj) (by rw [x.N]; exact hm) h3.1 h3.2.1 h3.2.2 (by rw [x.sc]; exact hy) (by rw [x.sc]; exact hz) (by rw [x.sc]; exact hw) (S.a f c l X [e1, e2, e3] x hn) hsw) fun D ρ H z => ?_
                  obtain ⟨ι, σ, h, sr, rs, vts, h1, e1, kk⟩ := core _ _ _ z
                  refine ⟨ι, σ, h, sr, rs, vts, h1, e1, fun ι1 H1 vs to1 r1 => ?_⟩
                  obtain ⟨_, ⟨v, r', ev, v', r'', er, v'', r3, er', er'', q⟩, _⟩ := kk ι1 H1 vs to1 r1
                  exact ⟨v, v', v'', by rw [ev, er, er', er''], q⟩
              · cases h3
            · cases h2
          · cases h2
        · cases hg
      · cases hg
    | [], h, _, _, _ => simp at h
    | [_], h, _, _, _ => simp at h
    | _ :: _ :: _ :: _ :: _, h, _, _, _ => simp at h
/-! ### match -/
/-- the bindings of a pattern that has matched -/
inductive BdR (X : Cx) (c : SC) (H : Hp) (ι : List Addr) : List (Nat × T) → List (Str × Value) → Prop
  | nil : BdR X c H ι [] []
  | cons {i : Nat} {t : T} {y : Str} {v : V} {u : Value} {bs : List (Nat × T)} {us : List (Str × Value)} : stOk c y = true → c.N[i]? = some y → Rep X.tx.K H ι t v → RelV v u → BdR X c H ι bs us → BdR X c H ι ((i, t) :: bs) ((y, u) :: us)
theorem BdR.app {H : Hp} {ι : List Addr} {as : List (Nat × T)} {bs : List (Nat × T)} {us ws : List (Str × Value)} (a : BdR X c H ι as us) (b : BdR X c H ι bs ws) : BdR X c H ι (as ++ bs) (us ++ ws) := by
  induction a with
  | nil => exact b
  | cons h1 h2 h3 h4 _ ih => exact .cons h1 h2 h3 h4 ih
def MtR (X : Cx) (c : SC) (H : Hp) (ι : List Addr) : Option (List (Nat × T)) → Option (List (Str × Value)) → Prop
  | none, none => True
  | some bs, some us => BdR X c H ι bs us
  | _, _ => False
theorem pat_star {n : Nat} {p : Pattern} {q : Pt} (h : cPt n c p = some q) : p.isStar = false := by
  cases n with
  | zero => cases h
  | succ n => cases p <;> first | rfl | cases h
theorem pat_wild {n : Nat} {p : Pattern} {q : Pt} (h : cPt n c p = some q) : p.isWildcard = q.isWild := by
  cases n with
  | zero => cases h
  | succ n =>
    unfold cPt at h
    split at h
    · cases h; rfl
    · cases h; rfl
    · split at h
      · cases h; rfl
      · cases h
    · split at h
      · rename_i qs hq
        cases hw : qs.all Pt.isWild <;> rw [hw] at h <;> cases h
        rfl
      · cases h
    · cases h
theorem pats_hyp {n : Nat} : ∀ {ps : List Pattern} {qs : List Pt}, mapO (cPt n c) ps = some qs → ps.findIdx? (·.isStar) = none ∧ (ps.all fun p => p.isWildcard || (p.isStar && p.names.isEmpty)) = qs.all Pt.isWild
  | [], qs, e => by cases e; exact ⟨rfl, rfl⟩
  | p :: ps, qs, h => by
    unfold mapO at h
    split at h
    · rename_i b hb
      split at h
      · rename_i bs hbs
        cases h
        obtain ⟨i1, i2⟩ := pats_hyp hbs
        have h1 := pat_star hb
        refine ⟨by rw [List.findIdx?_cons, h1, i1]; rfl, ?_⟩
        rw [List.all_cons, List.all_cons, i2, h1, pat_wild hb, Bool.false_and, Bool.or_false]
      · cases h
    · cases h
theorem pat_ok (x : XOk g c l X) {pins : List (Addr × Obj)} {ρ : L2.St} {H : Hp} {ι : List Addr} {h : Hi} (sr : SR X.tx ι h H) : ∀ (k n : Nat) (p : Pattern) (q : Pt), cPt n c p = some q → ∀ {s : Shared} {t : T} {v : V} {u : Value} {r : Option (List (Nat × T))}, Inv X pins ρ H s → Rep X.tx.K H ι t v → RelV v u → matchT h k q t = some r →
    wpAny (model X.prog X.w) X.A (matchPattern p X.env u) (fun r' s' => Inv X pins ρ H s' ∧ MtR X c H ι r r') X.xe s := by
  intro k
  induction k with
  | zero => intro n p q hp s t v u r I rp rv e; cases e
  | succ k ih =>
    have ihL : ∀ (n : Nat) (ps : List Pattern) (qs : List Pt), mapO (cPt n c) ps = some qs → ∀ {s : Shared} {ts : List T} {vs : List V} {us : List Value} {r : Option (List (Nat × T))}, Inv X pins ρ H s → RepL X.tx.K H ι ts vs → Vals vs us → matchL (matchT h k) qs ts = some r →
        wpAny (model X.prog X.w) X.A (matchEach ps X.env us) (fun r' s' => Inv X pins ρ H s' ∧ MtR X c H ι r r') X.xe s := by
      intro n ps
      induction ps with
      | nil =>
        intro qs hq s ts vs us r I rl rv e
        cases hq
        cases rl with
        | nil => cases rv; cases e; exact wpAny_matchEach_nil ⟨I, .nil⟩
        | cons _ _ => cases e
      | cons p ps ihp =>
        intro qs hq s ts vs us r I rl rv e
        unfold mapO at hq
        split at hq
        · rename_i b hb
          split at hq
          · rename_i bs hbs
            cases hq
            cases rl with
            | nil => cases e
            | cons r1 r2 =>
              cases rv with
              | cons v1 v2 =>
                unfold matchL at e
                refine wpAny_matchEach_cons ?_ (pat_star hb)
                cases e1 : matchT h k b ‹T› with
                | none => rw [e1] at e; cases e
                | some o1 =>
                  rw [e1] at e
                  refine thn (ih n p b hb I r1 v1 e1) fun r' s' ⟨I1, m1⟩ => ?_
                  cases o1 with
                  | none =>
                    cases e
                    cases r' with
                    | none => exact ⟨I1, trivial⟩
                    | some us2 => exact m1.elim
                  | some as =>
                    cases r' with
                    | none => exact m1.elim
                    | some us1 =>
                      dsimp only at e
                      cases e2 : matchL (matchT h k) bs ‹List T› with
                      | none => rw [e2] at e; cases e
                      | some o2 =>
                        rw [e2] at e
                        refine thn (ihp bs hbs I1 r2 v2 e2) fun r'' s'' ⟨I2, m2⟩ => ?_
                        cases o2 with
                        | none =>
                          cases e
                          cases r'' with
                          | none => exact ⟨I2, trivial⟩
                          | some us2 => exact m2.elim
                        | some as2 =>
                          cases e
                          cases r'' with
                          | none => exact m2.elim
                          | some us2 => exact ⟨I2, BdR.app m1 m2⟩
          · cases hq
        · cases hq
    intro n p q hp s t v u r I rp rv e
    cases n with
    | zero => cases hp
    | succ n =>
      unfold cPt at hp
      split at hp
      · rename_i x1 _ _ _
        cases hp
        unfold matchT at e
        simp only at e
        refine wpAny_matchPattern_Value (thn (pe_str.run pins s ρ H (fun v' H' => v' = .str x1 ∧ H' = H) I ⟨rfl, rfl⟩) fun u1 s1 ⟨v1, H1, I1, r1, e1, e2⟩ => ?_)
        subst e1 e2
        split at e
        · rename_i ec
          cases e
          refine thn (cmp_ok x.hu .Eq pins s1 ρ _ v _ u u1 (fun v' H' => v' = .bl true ∧ H' = H1) I1 rv r1 ⟨ι, h, t, .str x1, true, sr, rp, .str _, ec, rfl, rfl⟩) fun u2 s2 ⟨v2, H2, I2, r2, e1, e2⟩ => ?_
          subst e1 e2
          cases r2
          exact wpAny_truthy_bool ⟨I2, .nil⟩
        · rename_i ec
          cases e
          refine thn (cmp_ok x.hu .Eq pins s1 ρ _ v _ u u1 (fun v' H' => v' = .bl false ∧ H' = H1) I1 rv r1 ⟨ι, h, t, .str x1, false, sr, rp, .str _, ec, rfl, rfl⟩) fun u2 s2 ⟨v2, H2, I2, r2, e1, e2⟩ => ?_
          subst e1 e2
          cases r2
          exact wpAny_truthy_bool ⟨I2, trivial⟩
        · cases e
      · cases hp
        cases e
        exact wpAny_matchPattern_Capture ⟨I, .nil⟩
      · split at hp
        · rename_i i hi
          obtain ⟨h1, h2⟩ := cTgN_ok hi
          cases hp
          cases e
          exact wpAny_matchPattern_Capture ⟨I, .cons h1 h2 rp rv .nil⟩
        · cases hp
      · rename_i ps _
        split at hp
        · rename_i qs hq
          obtain ⟨hst, hwd⟩ := pats_hyp hq
          have hlen := mapO_len hq
          cases hw : qs.all Pt.isWild with
          | true => rw [hw] at hp; cases hp
          | false =>
            rw [hw] at hp hwd
            cases hp
            unfold matchT at e
            simp only at e
            have flat : ∀ {T : String}, s.TypeIs u T → flagOfType true (.type T) = pure false → r = none → wpAny (model X.prog X.w) X.A (matchPattern (.MatchSequence ps ‹_›) X.env u) (fun r' s' => Inv X pins ρ H s' ∧ MtR X c H ι r r') X.xe s := fun hT hb hr =>
              wpAny_matchPattern_Sequence (wpAny_collectionFlag hT hb (by subst hr; exact ⟨I, trivial⟩)) hst hwd
            split at e
            · rename_i ts
              obtain ⟨a, xs, rfl, sx, lx⟩ := rp.tupE
              cases rv
              obtain ⟨its, rr, pp, hz⟩ := I.tuple sx
              have hl := lx.length
              have hl2 := rr.length
              have hsz := sizeLine_eq
              cases hn : Nat.beq ts.length qs.length with
              | false =>
                rw [hn] at e
                cases e
                have hn := Nat.ne_of_beq_eq_false hn
                refine matchSeq_tuple_miss pp (by rw [List.size_toArray]; omega) (by rw [List.size_toArray]; omega) ⟨I.tok _, trivial⟩ hst hwd
              | true =>
                rw [hn] at e
                have hn := Nat.eq_of_beq_eq_true hn
                have hps : ps.length = its.toArray.size := by rw [List.size_toArray]; omega
                refine matchSeq_tuple_hit pp (by rw [List.size_toArray]; omega) (by rw [List.size_toArray]; omega) ?_ hst hwd
                rw [hps]
                refine unpackItems_tuple (I.ok.hd x.calm) pp fun h' hx => ?_
                have I1 : Inv X pins ρ H { s with toks := s.toks + 1 + 1, heap := h' } := I.kept (t' := s.toks + 1 + 1) fun b o e => hx b o (Nat.ne_of_lt (Heap.lt_size e)) e
                exact ihL n ps qs hq I1 lx (by simpa using rr) e
            all_goals first | (cases e; done) | skip
            · cases e; cases rp; obtain ⟨_, rfl⟩ := rv; exact flat (T := "str") rfl flag_seq_str rfl
            · cases e; cases rp; cases rv; exact flat (T := "NoneType") rfl flag_seq_None rfl
            · cases e; cases rp; obtain ⟨_, rfl⟩ := rv; exact flat (T := "int") rfl flag_seq_int rfl
            · cases e; cases rp; cases rv; exact flat (T := "bool") rfl flag_seq_bool rfl
        · cases hp
      · cases hp
theorem bind_ok (x : XOk g c l X) {pins : List (Addr × Obj)} {H : Hp} {ι : List Addr} {bs : List (Nat × T)} {us : List (Str × Value)} (b : BdR X c H ι bs us) : ∀ {σ σ' : Sg} {ρ : L2.St} {s : Shared}, Inv X pins ρ H s → RepS X.tx.K H ι σ ρ → bindAll bs σ = some σ' →
    wpAny (model X.prog X.w) X.A (assignInOrder (us.map fun (n, _) => bindName X.env n) (us.map (·.2))) (fun _ s' => ∃ ρ', Inv X pins ρ' H s' ∧ RepS X.tx.K H ι σ' ρ') X.xe s := by
  induction b with
  | nil => intro σ σ' ρ s I rs e; cases e; exact wpAny_assignInOrder_none ⟨ρ, I, rs⟩
  | @cons i t y v u bs us h1 h2 h3 h4 _ ih =>
    intro σ σ' ρ s I rs e
    unfold bindAll at e
    split at e
    · rename_i σ1 e1
      refine wpAny_assignInOrder_more (wpAny_bindName (store_ok I x.nd (by rw [x.N]; exact h2) (x.loc h1) h4 (fun s1 I1 => ?_) (x.st _ h1)))
      exact ih I1 (setS_ok e1 h3 rs) e
    · cases e
theorem cases_ok (x : XOk g c l X) (hk : c.sc.kind = .function) (SS : SndS g (run g n)) (f : Nat) {pins : List (Addr × Obj)} {H : Hp} {ι : List Addr} {h : Hi} {D : Ends} {ρ : L2.St} {t : T} {v : V} {u : Value} {σ : Sg} (sr : SR X.tx ι h H) (rs : RepS X.tx.K H ι σ ρ) (rt : Rep X.tx.K H ι t v) (rv : RelV v u) {fl : Fl} {σ' : Sg} {h' : Hi}
    (k : ∀ ι' H' ρ', To X.tx ι H ι' h' H' → RepS X.tx.K H' ι' σ' ρ' → EndsAt X.tx.K D fl ι' ρ' H') :
    ∀ (cs : List MatchCase) (ks : List (Pt × List IS)) {s : Shared} {first : Bool}, mapO (cCase c (fun b => b.map (cS f c))) cs = some ks → casesT (run g n) l t σ h ks = some (fl, σ', h') → Inv X pins ρ H s →
    wpAny (model X.prog X.w) X.A (matchCases cs X.env u first) (SP X pins D) X.xe s := by
  intro cs
  induction cs with
  | nil =>
    intro ks s first hc e I
    cases hc
    cases e
    exact wpAny_matchCases_nil ⟨ρ, H, I, k ι H ρ (To.refl sr) rs⟩
  | cons m cs ih =>
    intro ks s first hc e I
    unfold mapO at hc
    split at hc
    · rename_i b hb
      split at hc
      · rename_i bs hbs
        cases hc
        unfold cCase at hb
        split at hb
        · rename_i p body
          split at hb
          · rename_i q hq
            cases hb
            unfold casesT at e
            refine wpAny_matchCases_cons ?_
            cases e1 : matchT h 5 q t with
            | none => rw [e1] at e; cases e
            | some o =>
              rw [e1] at e
              refine thn (pat_ok x sr 5 6 p q hq I rt rv e1) fun r' s' ⟨I1, m1⟩ => ?_
              cases o with
              | none =>
                cases r' with
                | none => exact ih bs hbs e I1
                | some us => exact m1.elim
              | some as =>
                cases r' with
                | none => exact m1.elim
                | some us =>
                  dsimp only at e ⊢
                  split at e
                  · rename_i σ1 e2
                    refine thn (bind_ok x m1 I1 rs e2) fun _ s2 ⟨ρ2, I2, rs2⟩ => ?_
                    exact (SS.ss f c l X body x hk).run pins s2 ρ2 H D I2 ⟨ι, σ1, h, sr, rs2, fl, σ', h', e, k⟩
                  · cases e
          · cases hb
        · cases hb
      · cases hc
    · cases hc
theorem snd_match (x : XOk g c l X) (hk : c.sc.kind = .function) (SS : SndS g (run g n)) (f : Nat) {e : Expr} {cs : List MatchCase} {p : Pos} {ks : List (Pt × List IS)} (hc : mapO (cCase c (fun b => b.map (cS f c))) cs = some ks) :
    PS X (.Match e cs p) (rdS X.tx (step g (run g n)) l (.mtch (cE f c e) ks)) := by
  have S := snd_all g n
  refine ⟨fun pins s ρ H D I ⟨ι, σ, h, sr, rs, fl, σ', h', q, k⟩ => ?_⟩
  replace q : stepS g (run g n) l (.mtch (cE f c e) ks) σ h = some (fl, σ', h') := q
  simp only [stepS] at q
  split at q
  · rename_i t h1 e1
    refine wpAny_Match (thn ((S.e f c l X e x).run pins s ρ H _ I ⟨ι, σ, h, sr, rs, t, h1, e1, fun ι1 H1 v to1 r1 => (show (fun v H1 => ∃ ι1, To X.tx ι H ι1 h1 H1 ∧ Rep X.tx.K H1 ι1 t v) v H1 from ⟨ι1, to1, r1⟩)⟩) fun u s1 ⟨v, H1, I1, r1, ι1, to1, rp⟩ => ?_)
    exact cases_ok x hk SS f to1.sr (to1.repS sr rs) rp r1 (fun ι' H' ρ' to rs' => k _ _ _ (to1.trans to) rs') cs ks hc q I1
  · cases q
/-! ### the step -/
theorem noCmp_sw {e : Expr} (h : noCmp e = true) {t : Option Expr} {ln : Nat} {env : Env} : swapsWith e t ln env = pure false := by
  cases e <;> first | rfl | cases h
theorem snd_s (SS : SndS g (run g n)) : ∀ (f : Nat) (c : SC) (l : Nat) (X : Cx) (st : Stmt), XOk g c l X → c.sc.kind = .function → PS X st (rdS X.tx (step g (run g n)) l (cS f c st)) := by
  intro f c l X st x hk
  have S := snd_all g n
  cases f with
  | zero => exact ps_bad
  | succ f =>
    have hpass : PassesOwn (model X.prog X.w) X.A X.env X.xe := by rw [x.xe]; exact PassesOwn.never
    cases st with
    | Return o p =>
      cases o with
      | none =>
        refine psW ps_retN fun D ρ H ⟨ι, σ, h, sr, rs, fl, σ', h', e, k⟩ => ?_
        replace e : some (Fl.rt .non, σ, h) = some (fl, σ', h') := e
        cases e
        exact k ι H ρ (To.refl sr) rs .non .non
      | some e => exact psW (ps_ret (S.e f c l X e x)) fun D ρ H q => rds_ret q
    | Expr e p =>
      show PS X _ (rdS X.tx (step g (run g n)) l (bif noCmp e then .expr (cE f c e) else .bad))
      cases hc : noCmp e with
      | false => exact ps_bad
      | true => exact psW (ps_expr (S.e f c l X e x) (noCmp_sw hc)) fun D ρ H q => rds_expr q
    | Pass p =>
      refine psW ps_pass fun D ρ H ⟨ι, σ, h, sr, rs, fl, σ', h', e, k⟩ => ?_
      replace e : some (Fl.nx, σ, h) = some (fl, σ', h') := e
      cases e
      exact k ι H ρ (To.refl sr) rs
    | Break p =>
      refine psW ps_break fun D ρ H ⟨ι, σ, h, sr, rs, fl, σ', h', e, k⟩ => ?_
      replace e : some (Fl.bk, σ, h) = some (fl, σ', h') := e
      cases e
      exact k ι H ρ (To.refl sr) rs
    | Continue p =>
      refine psW ps_continue fun D ρ H ⟨ι, σ, h, sr, rs, fl, σ', h', e, k⟩ => ?_
      replace e : some (Fl.ct, σ, h) = some (fl, σ', h') := e
      cases e
      exact k ι H ρ (To.refl sr) rs
    | If t a b p => exact psW (ps_if (S.t f c l X t x) (SS.ss f c l X a x hk) (SS.ss f c l X b x hk)) fun D ρ H q => rds_if q
    | While t b rest p =>
      cases rest with
      | nil => exact psW (ps_while hpass (S.t f c l X t x) (SS.ss f c l X b x hk)) fun D ρ H q => rds_whl q
      | cons _ _ => exact ps_bad
    | For tg it b rest p =>
      cases rest with
      | cons _ _ => exact ps_bad
      | nil =>
        unfold cS
        simp only
        cases hns : noSet it with
        | false => exact ps_bad
        | true =>
          simp only [cond_true]
          split
          · rename_i gt hg
            obtain ⟨i1, i2⟩ := snd_I S x f tg it
            have p1 := ps_for (pos := p) hpass x.calm i1 (pg2 x hg) (SS.ss f c l X b x hk) (noSet_ok hns _)
            have p2 := ps_for (pos := p) hpass x.calm i2 (pg2 x hg) (SS.ss f c l X b x hk) (noSet_ok hns _)
            exact psW (PS.or p1 (PS.or p2 (ps_lock p2))) fun D ρ H q => rds_fr q
          · exact ps_bad
    | Match e cs p =>
      unfold cS
      simp only
      split
      · rename_i ks hks
        exact snd_match x hk SS f hks
      · exact ps_bad
    | AugAssign tg op e p =>
      cases tg with
      | Name y q =>
        unfold cS
        simp only
        split
        · rename_i i hi
          obtain ⟨h1, h2⟩ := cTgN_ok hi
          exact psW (ps_aug x.nd (by rw [x.N]; exact h2) (x.loc h1) (S.e f c l X e x) (aug_ok op) (x.st _ h1)) fun D ρ H q => rds_augN q
        · exact ps_bad
      | Subscript o i q =>
        show PS X _ (rdS X.tx (step g (run g n)) l (bif noSlc i then .augS (cE f c o) (cE f c i) op (cE f c e) else .bad))
        cases hs : noSlc i with
        | false => exact ps_bad
        | true => exact psW (ps_augS (S.e f c l X o x) (S.e f c l X i x) (pget_ok x.hu) (S.e f c l X e x) (aug_ok op) (set_ok x.hu) (by cases i <;> first | exact fun _ _ _ => rfl | cases hs)) fun D ρ H q => rds_augS q
      | _ => exact ps_bad
    | Assign tgs e p =>
      match tgs with
      | [] => exact ps_bad
      | _ :: _ :: _ => exact ps_bad
      | [tg] =>
        cases tg with
        | Name y q =>
          unfold cS
          simp only
          split
          · rename_i i hi
            exact snd_asg x hk f hi
          · exact ps_bad
        | Subscript o i q =>
          show PS X _ (rdS X.tx (step g (run g n)) l (bif noSlc i then .set (cE f c o) (cE f c i) (cE f c e) else .bad))
          cases hs : noSlc i with
          | false => exact ps_bad
          | true =>
            refine psW (ps_asg (S.e f c l X e x) (pg_subG x S f hs) ?_ rfl rfl) fun D ρ H q => rds_set q
            cases e <;> rfl
        | Attribute o a q =>
          unfold cS
          simp only
          split
          · rename_i k hk
            refine psW (ps_asg (S.e f c l X e x) (pg_fld x hk (S.e f c l X o x)) ?_ rfl rfl) fun D ρ H q => rds_setF q
            cases e <;> rfl
          · exact ps_bad
        | Tuple ts k q =>
          unfold cS
          simp only
          split
          · rename_i es k2 q2
            cases hb : es.all noStar && Nat.beq ts.length es.length && (Nat.beq ts.length 2 || Nat.beq ts.length 3) with
            | false => exact ps_bad
            | true =>
              obtain ⟨hb, h23⟩ := Bool.and_eq_true_iff.mp hb
              obtain ⟨hn, hl⟩ := Bool.and_eq_true_iff.mp hb
              have hl := Nat.eq_of_beq_eq_true hl
              have h23 : ts.length = 2 ∨ ts.length = 3 := (Bool.or_eq_true_iff.mp h23).imp Nat.eq_of_beq_eq_true Nat.eq_of_beq_eq_true
              simp only [cond_true]
              split
              · rename_i gs b hg hp
                cases b with
                | false => exact snd_par x hk f hn hl h23 hg hp (fun e => nomatch e)
                | true =>
                  simp only [cond_true]
                  split
                  · rename_i is hi
                    cases hd : decide is.Nodup with
                    | false => exact ps_bad
                    | true => exact snd_par x hk f hn hl h23 hg hp (fun _ is' hi' => by rw [hi] at hi'; cases hi'; exact of_decide_eq_true hd)
                  · exact ps_bad
              · exact ps_bad
          · rename_i hne
            split
            · rename_i gt hg
              refine psW (ps_asg (S.e f c l X e x) (pg2 x hg) ?_ ?_) fun D ρ H q => rds_asg q
              all_goals (cases e <;> first | rfl | exact absurd rfl (hne _ _ _))
            · exact ps_bad
        | _ => exact ps_bad
    | _ => exact ps_bad
theorem snd_ss (SS : SndS g (run g n)) (f : Nat) (c : SC) (l : Nat) (X : Cx) (x : XOk g c l X) (hk : c.sc.kind = .function) : ∀ sts : List Stmt, PSs X sts (rdSs X.tx (step g (run g n)) l (sts.map (cS f c)))
  | [] => pssW pss_nil fun D ρ H ⟨ι, σ, h, sr, rs, fl, σ', h', e, k⟩ => by
    replace e : some (Fl.nx, σ, h) = some (fl, σ', h') := e
    cases e
    exact k ι H ρ (To.refl sr) rs
  | st :: sts => by
    refine pssW (pss_cons (SS.s f c l X st x hk) (SS.ss f c l X sts x hk)) fun D ρ H ⟨ι, σ, h, sr, rs, fl, σ', h', e, k⟩ => ?_
    replace e : stepSs (run g n) l (cS f c st :: sts.map (cS f c)) σ h = some (fl, σ', h') := e
    simp only [stepSs] at e
    split at e
    · rename_i σ1 h1 e1
      exact ⟨ι, σ, h, sr, rs, .nx, σ1, h1, e1, fun ι1 H1 ρ1 to1 rs1 => ⟨ι1, σ1, h1, to1.sr, rs1, fl, σ', h', e, fun ι2 H2 ρ2 to2 rs2 => k _ _ _ (to1.trans to2) rs2⟩⟩
    · rename_i hnx e1
      cases e
      refine ⟨ι, σ, h, sr, rs, fl, σ', h', e1, fun ι1 H1 ρ1 to1 rs1 => ?_⟩
      have kk := k ι1 H1 ρ1 to1 rs1
      cases fl with
      | nx => exact absurd rfl (hnx σ' h')
      | bk => exact kk
      | ct => exact kk
      | rt t => exact kk
    · cases e
/-- every statement -/
theorem snd_sall (g : Gt) : ∀ n : Nat, SndS g (run g n)
  | 0 => ⟨fun f c l X st x hk => ⟨fun pins s σ H D I ⟨_, _, _, _, _, _, _, _, e, _⟩ => (nomatch e)⟩, fun f c l X st x hk => ⟨fun pins s σ H D I ⟨_, _, _, _, _, _, _, _, e, _⟩ => (nomatch e)⟩⟩
  | n + 1 => ⟨snd_s (snd_sall g n), fun f c l X sts x hk => snd_ss (snd_sall g n) f c l X x hk sts⟩
end
end Gn

set_option maxHeartbeats 2000000
/-! Binding of plain parameters, whatever their number. -/
namespace Gn
open PySem PySem.Spec PyProof.Rows L2
theorem zip_lookup : ∀ {P : List Str} {us : List Value} {n : Str}, us.length = P.length → n ∈ P → ((P.zip us).lookup n).isSome = true
  | [], _, _, _, h => by cases h
  | p :: P, u :: us, n, hl, h => by
    rw [List.zip_cons_cons, List.lookup_cons]
    cases e : n == p with
    | true => rfl
    | false =>
      rcases List.mem_cons.mp h with rfl | h
      · simp at e
      · exact zip_lookup (by simpa using hl) h
theorem zip_filter : ∀ {P : List Str} {us : List Value}, us.length = P.length → P.Nodup → P.filterMap (fun n => ((P.zip us).lookup n).map fun v => (n, v)) = P.zip us
  | [], [], _, _ => rfl
  | p :: P, u :: us, hl, nd => by
    have hl' : us.length = P.length := by simpa using hl
    obtain ⟨h1, h2⟩ := List.nodup_cons.mp nd
    rw [List.zip_cons_cons, List.filterMap_cons]
    have e0 : ((p, u) :: P.zip us).lookup p = some u := by rw [List.lookup_cons]; simp
    rw [e0]
    simp only [Option.map_some]
    congr 1
    refine Eq.trans ?_ (zip_filter hl' h2)
    have all : ∀ (l : List Str), (∀ n ∈ l, n ∈ P) → l.filterMap (fun n => (List.lookup n ((p, u) :: P.zip us)).map fun v => (n, v)) = l.filterMap (fun n => (List.lookup n (P.zip us)).map fun v => (n, v)) := by
      intro l
      induction l with
      | nil => intro _; rfl
      | cons n l ih =>
        intro hn
        have : (n == p) = false := by
          rw [beq_eq_false_iff_ne]
          rintro rfl
          exact h1 (hn _ List.mem_cons_self)
        rw [List.filterMap_cons, List.filterMap_cons, ih fun m hm => hn m (List.mem_cons_of_mem _ hm), List.lookup_cons, this]
    exact all P fun _ h => h
/-- parameters: plain names alone -/
def plainPars (a : Arguments) (P : List Str) : Bool := a.posonlyargs.isEmpty && a.vararg.isNone && a.kwonlyargs.isEmpty && a.kwarg.isNone && decide (a.args.map (·.arg) = P) && decide P.Nodup
theorem bind_plain {fd : FuncData} {P : List Str} (h : plainPars fd.params P = true) (hd : fd.defaults = .none) {us : List Value} (hl : us.length = P.length) : bindArgs fd ⟨us, []⟩ = pure (P.zip us) := by
  unfold plainPars at h
  simp only [Bool.and_eq_true, List.isEmpty_iff, Option.isNone_iff_eq_none, decide_eq_true_eq] at h
  obtain ⟨⟨⟨⟨⟨h1, h2⟩, h3⟩, h4⟩, h5⟩, h6⟩ := h
  have hm : ((P.take P.length).filter fun n => ((P.zip us).lookup n).isNone) = [] := by
    rw [List.filter_eq_nil_iff]
    intro n hn
    rw [List.take_length] at hn
    have := zip_lookup hl hn
    rw [Option.isNone_iff_eq_none]
    intro z
    rw [z] at this
    cases this
  have hs : notAStandIn Value.none = pure () := rfl
  unfold bindArgs
  simp only [hs, h1, h2, h3, h4, h5, hd, seqItems?, List.map_nil, List.nil_append, List.append_nil, List.forIn_nil, pure_bind, hl, Option.getD, Nat.lt_irrefl, gt_iff_lt, decide_false, Bool.false_and, Bool.false_eq_true, if_false, List.length_nil, Nat.zero_sub, List.drop_nil, Nat.sub_zero, hm, List.isEmpty_nil, Bool.not_true, List.zip_nil_right, zip_filter hl h6]
  try rfl
end Gn

set_option maxHeartbeats 4000000
/-! The engine is right, part 15: every def of a table, at every depth. -/
namespace Gn
open PySem PySem.Spec PyProof.Rows L2 RZ

/-- a def of the module, or a method of a class with slots, as the engine has it -/
structure Ent where
  cls : Option Str
  x : Str
  qual : Str
  st : Stmt
  P : List Str
  c : SC
def Ent.fi (e : Ent) : FI := ⟨e.c.N.length, e.P.length, (C8.fnBody e.st).map (cS 40 e.c)⟩
/-- what is looked at in a def -/
def Ent.good (e : Ent) : Bool := C8.scC e.c.N e.P (C8.fnScope e.st) && decide (e.c.sc = C8.fnScope e.st) && plainPars (C8.fnArgs e.st) e.P
def Ent.at_ (e : Ent) : Str × Option Str := match e.cls with
  | none => (e.x, none)
  | some d => (d, some e.x)
abbrev Ent.ad (K : PySem.W.Frag) (e : Ent) : Addr := He.fAd K e.at_
/-- a def stands where it is said to -/
structure EntOk (K : PySem.W.Frag) (e : Ent) : Prop where
  good : e.good = true
  df : ∃ fd, FunD K e.x e.qual (C8.fnArgs e.st) (C8.fnBody e.st) (C8.fnScope e.st) [] [] (e.ad K) fd
/-- a global's value -/
def ConOk (K : PySem.W.Frag) (mg : Str → Option Value) (g : Gt) (x : Str) (k : Nat) : Prop :=
  ∃ t u v, g.consts[k]? = some t ∧ mg x = some u ∧ RelV v u ∧ (∀ (H : Hp) (ι : List Addr), Rep K H ι t v) ∧ ∀ a, v = .ref a → ∃ o, K.lookup a = some o ∧ o.dict = none
structure TabOk (C : Tx) (g : Gt) (tb : List Ent) : Prop where
  fns : g.fns = tb.map Ent.fi
  ent : ∀ e ∈ tb, EntOk C.K e
  bmg : ∀ x ∈ bNames, C.mg x = none
  gl : ∀ e ∈ tb, ∀ x b, find e.c.gl x = some b → match b with
    | .con k => ConOk C.K C.mg g x k
    | .fn k => ∃ e', tb[k]? = some e' ∧ e'.x = x ∧ C.mg x = some (.ref (e'.ad C.K))
    | .cls k => ∃ e' A, tb[k]? = some e' ∧ C.mg x = some (.ref A) ∧ Mk C.K A (e'.ad C.K)
  fl : ∀ e ∈ tb, ∀ f q, find e.c.sl f = some q → FlOk C f q
  mt : ∀ e ∈ tb, ∀ m q, find e.c.ms m = some q → ∃ e' A, tb[q.2]? = some e' ∧ C.mg q.1 = some (.ref A) ∧ SlX.SCls C.K A ∧ Meth C.K A m (e'.ad C.K)
section
variable {C : Tx} {g : Gt} {tb : List Ent} {base : Heap}
theorem repS_start {K : PySem.W.Frag} {H : Hp} {ι : List Addr} {ts : List T} {vs : List V} {N : List Str} (r : RepL K H ι ts vs) : RepS K H ι (startS N.length ts) (L2.start N vs) := by
  have hl := r.length
  refine ⟨by simp [startS, L2.start, hl], fun i t e => ?_⟩
  unfold startS at e
  by_cases hi : i < ts.length
  · rw [List.getElem?_append_left (by simpa using hi), List.getElem?_map] at e
    cases e1 : ts[i]? with
    | none => rw [e1] at e; cases e
    | some a =>
      rw [e1] at e
      cases e
      obtain ⟨v, hv, rv⟩ := r.get e1
      refine ⟨v, ?_, rv⟩
      unfold L2.start
      rw [List.getElem?_append_left (by simp; omega), List.getElem?_map, hv]
      rfl
  · rw [List.getElem?_append_right (by simpa using hi), List.getElem?_replicate] at e
    split at e <;> cases e
/-- a def's promise, by positional values -/
def Kept (C : Tx) (g : Gt) (base : Heap) (l : Nat) (e : Ent) : Prop := ∃ fd, FnOk C.P C.w C.K C.mg base C8.CX0 (l + 1) (e.ad C.K) fd e.P (spR C g e.fi l) ∧ PySem.W.keepIn C.K (.ref (e.ad C.K)) = true ∧ Binds C.K fd e.P [] ∧ ∀ A, FnR C.P C.w C.K C.mg base C8.CX0 (l + 1) (e.ad C.K) (spI C g e.fi A l)
theorem Kept.cal {l : Nat} {e : Ent} (k : Kept C g base l e) {x : Str} (h : C.mg x = some (.ref (e.ad C.K))) : C8.Cal C.P C.w C.K C.mg base (l + 1) x (spR C g e.fi l) [] := by
  obtain ⟨fd, h1, h2, h3, _⟩ := k
  exact ⟨_, fd, e.P, [], h1, h, h2, h3, .nil⟩
theorem Kept.fnR {l : Nat} {e : Ent} (k : Kept C g base l e) : FnR C.P C.w C.K C.mg base C8.CX0 (l + 1) (e.ad C.K) (spR C g e.fi l) := by
  obtain ⟨fd, h1, h2, h3, _⟩ := k
  exact (h1.raw h3 .nil).imp fun vs H Q E h => by rw [List.append_nil]; exact h
theorem kept_all (tk : TabOk C g tb) : ∀ (l k : Nat) (e : Ent), tb[k]? = some e → Kept C g base l e := by
  intro l
  induction l using Nat.strongRecOn with
  | ind l ih =>
    intro k e he
    have hm := List.mem_of_getElem? he
    obtain ⟨gd, fd, F⟩ := tk.ent e hm
    obtain ⟨gd, g3⟩ := Bool.and_eq_true_iff.mp gd
    obtain ⟨g1, g2⟩ := Bool.and_eq_true_iff.mp gd
    have S := C8.fnScope_by g1
    have hsc : e.c.sc = C8.fnScope e.st := of_decide_eq_true g2
    have bd : Binds C.K fd e.P [] := F.bindsN fun kV doc pm an cdv ct us hl => bind_plain g3 rfl hl
    have fn_of_k : ∀ (k' : Nat) (e' : Ent), tb[k']? = some e' → g.fns[k']? = some e'.fi := fun k' e' h1 => by rw [tk.fns, List.getElem?_map, h1]; rfl
    have body : ∀ (cdv : Value) (A : Around) (outer : List Env) (s : Shared) (H : Hp) (E : XK) (n : Nat), Room l (A.deeper (envOfC e.qual (C8.fnScope e.st) s.heap.objs.size (e.ad C.K) cdv)) →
        PSs (cxOf C8.CX0 C.P C.w C.K C.mg base e.c.N e.qual (C8.fnScope e.st) (e.ad C.K) cdv A outer s H E).nox (C8.fnBody e.st) (rdSs C (run g n) l ((C8.fnBody e.st).map (cS 40 e.c))) := fun cdv A outer s H E n hr => by
      have x : XOk g { e.c with N := e.c.N } l (cxOf C8.CX0 C.P C.w C.K C.mg base e.c.N e.qual (C8.fnScope e.st) (e.ad C.K) cdv A outer s H E).nox := by
        refine ⟨rfl, S.nd, hsc.symm, rfl, hr, fun _ _ => .inl rfl, rfl, tk.bmg, fun y b hy => ?_, fun f q hf => tk.fl e hm f q hf, fun m q hq => ?_⟩
        · have q := tk.gl e hm y b hy
          cases b with
          | con k => exact q
          | fn k =>
            obtain ⟨e', h1, h2, h3⟩ := q
            exact ⟨e'.fi, fn_of_k _ _ h1, fun l' hl' => (ih l' hl' k e' h1).cal h3⟩
          | cls k =>
            obtain ⟨e', A', h1, h2, h3⟩ := q
            exact ⟨A', _, e'.fi, h2, h3, fn_of_k _ _ h1, fun l' hl' => let ⟨_, _, _, _, z⟩ := ih l' hl' k e' h1; z A'⟩
        · obtain ⟨e', A', h1, h2, h3, h4⟩ := tk.mt e hm m q hq
          exact ⟨A', _, e'.fi, h2, h3, h4, fn_of_k _ _ h1, fun l' hl' => (ih l' hl' _ e' h1).fnR⟩
      exact (snd_sall g n).ss 40 e.c l _ (C8.fnBody e.st) x (by rw [hsc]; exact S.kind)
    have read : ∀ {n : Nat} {ι : List Addr} {h h' : Hi} {ts : List T} {t : T} {vs : List V} {H : Hp} {Q : VK}, SR C ι h H → RepL C.K H ι ts vs → runF (run g n) l e.fi ts h = some (t, h') → PV C ι H t h' Q →
        rdSs C (run g n) l ((C8.fnBody e.st).map (cS 40 e.c)) { nx := fun _ H' => Q .non H', rt := Q } (L2.start e.c.N vs) H := fun {n ι h h' ts t vs H Q} sr rl er kk => by
      unfold runF at er
      refine ⟨ι, startS e.fi.slots ts, h, sr, repS_start rl, ?_⟩
      split at er
      · rename_i σ1 h1 e1
        cases er
        exact ⟨.nx, σ1, _, e1, fun ι' H' ρ' to rs => kk _ _ _ to .non⟩
      · rename_i t1 σ1 h1 e1
        cases er
        exact ⟨.rt t, σ1, _, e1, fun ι' H' ρ' to rs v rv => kk _ _ _ to rv⟩
      · cases er
    have ok1 : FnOk C.P C.w C.K C.mg base C8.CX0 (l + 1) (e.ad C.K) fd e.P (spR C g e.fi l) := by
      refine F.ok S (fun vs H Q E ⟨n, ι, h, ts, t, h', sr, rl, hl, _⟩ => by have h1 := rl.length; have h2 : ts.length = e.P.length := hl; omega) fun cdv A outer s H vs Q E hr sp => ?_
      obtain ⟨n, ι, h, ts, t, h', sr, rl, hl, er, kk⟩ := sp
      exact ⟨_, (body cdv A outer s H E n hr).nox, read sr rl er kk⟩
    have ok2 : ∀ A0, FnOk C.P C.w C.K C.mg base C8.CX0 (l + 1) (e.ad C.K) fd e.P (spI C g e.fi A0 l) := fun A0 => by
      refine F.ok S (fun vs H Q E ⟨_, _, _, _, _, n, ι, h, ts, t, h', sr, rl, hl, _⟩ => by have h1 := rl.length; have h2 : ts.length = e.P.length := hl; omega) fun cdv A outer s H vs Q E hr sp => ?_
      obtain ⟨a, dx, ws, rfl, ha, n, ι, h, ts, t, h', sr, rl, hl, er, kk⟩ := sp
      exact ⟨tRel _, (pss_rel (body cdv A outer s H E n hr)).nox, a, A0, dx, ha, read sr rl er kk⟩
    exact ⟨fd, ok1, F.kp, bd, fun A0 => ((ok2 A0).raw bd .nil).imp fun vs H Q E h => by rw [List.append_nil]; exact h⟩
end
end Gn

set_option maxHeartbeats 2000000
/-! The engine's table out of a program's top; TabOk from what is looked at behind the top. -/
namespace Gn
open PySem PySem.Spec PyProof.Rows L2

/-! ### the names of a def's slots -/
def scNames (sc : Scope) : List Str := sc.names.filterMap fun y => match y.2 with
  | .local => some y.1
  | .cell => some y.1
  | _ => none
def cmpN : Nat → Expr → List Str
  | 0, _ => []
  | n + 1, e => match e with
    | .ListComp e gs sc _ => scNames sc ++ cmpN n e ++ gs.flatMap fun g => cmpN n g.iter ++ g.ifs.flatMap (cmpN n)
    | .DictComp k v gs sc _ => scNames sc ++ cmpN n k ++ cmpN n v ++ gs.flatMap fun g => cmpN n g.iter ++ g.ifs.flatMap (cmpN n)
    | .SetComp e gs sc _ => scNames sc ++ cmpN n e ++ gs.flatMap fun g => cmpN n g.iter ++ g.ifs.flatMap (cmpN n)
    | .BoolOp _ vs _ => vs.flatMap (cmpN n)
    | .BinOp a _ b _ => cmpN n a ++ cmpN n b
    | .UnaryOp _ a _ => cmpN n a
    | .IfExp a b c _ => cmpN n a ++ cmpN n b ++ cmpN n c
    | .Compare a _ bs _ => cmpN n a ++ bs.flatMap (cmpN n)
    | .Call f as _ _ => cmpN n f ++ as.flatMap (cmpN n)
    | .Attribute a _ _ => cmpN n a
    | .Subscript a b _ => cmpN n a ++ cmpN n b
    | .Starred a _ => cmpN n a
    | .List es _ => es.flatMap (cmpN n)
    | .Tuple es _ _ => es.flatMap (cmpN n)
    | .Dict ks vs _ => (ks.flatMap fun k => match k with | some e => cmpN n e | none => []) ++ vs.flatMap (cmpN n)
    | .Slice a b _ _ => (match a with | some e => cmpN n e | none => []) ++ (match b with | some e => cmpN n e | none => [])
    | _ => []
def stN : Nat → Stmt → List Str
  | 0, _ => []
  | n + 1, s => match s with
    | .Return (some e) _ => cmpN 40 e
    | .Expr e _ => cmpN 40 e
    | .Assign ts e _ => ts.flatMap (cmpN 40) ++ cmpN 40 e
    | .AugAssign t _ e _ => cmpN 40 t ++ cmpN 40 e
    | .If t a b _ => cmpN 40 t ++ a.flatMap (stN n) ++ b.flatMap (stN n)
    | .While t a b _ => cmpN 40 t ++ a.flatMap (stN n) ++ b.flatMap (stN n)
    | .For _ i a b _ => cmpN 40 i ++ a.flatMap (stN n) ++ b.flatMap (stN n)
    | .Match e cs _ => cmpN 40 e ++ cs.flatMap fun c => c.body.flatMap (stN n)
    | _ => []
def dedupS : List Str → List Str → List Str
  | acc, [] => acc.reverse
  | acc, x :: xs => bif hasS x acc then dedupS acc xs else dedupS (x :: acc) xs
def parsOf (st : Stmt) : List Str := (C8.fnArgs st).args.map (·.arg)
def namesOf (st : Stmt) : List Str := dedupS [] (parsOf st ++ scNames (C8.fnScope st) ++ (C8.fnBody st).flatMap (stN 40))

/-! ### the table -/
structure Lay where
  gl : List (Str × Gb)
  sl : List (Str × Str × Nat)
  ms : List (Str × Str × Nat)
  ents : List (Option Str × Str × Str × Stmt)
  cons : List T
  z : List Str
def Lay.ent (L : Lay) (q : Option Str × Str × Str × Stmt) : Ent := ⟨q.1, q.2.1, q.2.2.1, q.2.2.2, parsOf q.2.2.2, ⟨namesOf q.2.2.2, C8.fnScope q.2.2.2, none, L.gl, L.sl, L.ms, hasS q.2.1 L.z⟩⟩
def Lay.tb (L : Lay) : List Ent := L.ents.map L.ent
def Lay.G (L : Lay) : Gt := ⟨L.tb.map Ent.fi, L.cons⟩
/-- prog: the top; exp: the module's names; z: the defs whose tuples are known -/
def layOf (exp : List (Str × Kd)) (cs : List Cd) (fs : List (Str × Str × Stmt)) (ms : List (Str × Str × Str × Stmt)) (cons : List (Str × T)) (z : List Str) : Lay :=
  ⟨(exp.filterMap fun p => match p.2 with
      | .fn k _ => some (p.1, Gb.fn k)
      | .mk k _ => some (p.1, Gb.fn k)
      | .con k _ => some (p.1, Gb.con k)
      | _ => none) ++ (cs.filterMap fun c => match find c.ms sInit with
      | some k => some (c.x, Gb.cls (k + fs.length))
      | none => none),
    cs.flatMap fun c => c.sl.zipIdx.map fun f => (f.1, c.x, f.2),
    cs.flatMap fun c => c.ms.map fun m => (m.1, c.x, m.2 + fs.length),
    (fs.map fun q => (none, q.1, q.2.1, q.2.2)) ++ ms.map fun q => (some q.1, q.2.1, q.2.2.1, q.2.2.2),
    cons.map (·.2), z⟩
def Lay.good (L : Lay) : Bool := L.tb.all Ent.good

/-! ### what the looks say -/
mutual
theorem valB_ok {K : PySem.W.Frag} {lk : Addr → Option Obj} (hl : ∀ a, K.lookup a = lk a) : ∀ {t : T} {u : Value}, valB lk t u = true → ∃ v, RelV v u ∧ (∀ (H : Hp) (ι : List Addr), Rep K H ι t v) ∧ ∀ a, v = .ref a → ∃ o, K.lookup a = some o ∧ o.dict = none
  | .non, u, h => by
    cases u <;> first | (simp [valB] at h; done) | exact ⟨.non, rfl, fun _ _ => .non, fun _ z => nomatch z⟩
  | .bl b, u, h => by
    cases u <;> first | (simp [valB] at h; done) | skip
    simp [valB] at h
    subst h
    exact ⟨.bl b, rfl, fun _ _ => .bl _, fun _ z => nomatch z⟩
  | .int i, u, h => by
    cases u <;> first | (simp [valB] at h; done) | skip
    simp [valB] at h
    subst h
    exact ⟨.int i, ⟨_, rfl⟩, fun _ _ => .int _, fun _ z => nomatch z⟩
  | .str x, u, h => by
    cases u <;> first | (simp [valB] at h; done) | skip
    simp [valB] at h
    subst h
    exact ⟨.str x, ⟨_, rfl⟩, fun _ _ => .str _, fun _ z => nomatch z⟩
  | .tup ts, u, h => by
    cases u with
    | ref a =>
      simp only [valB] at h
      rw [← hl a] at h
      cases q : K.lookup a with
      | none => rw [q] at h; cases h
      | some o =>
        rw [q] at h
        obtain ⟨oc, od, dt, osl⟩ := o
        simp only [Bool.and_eq_true, decide_eq_true_eq, Option.isNone_iff_eq_none] at h
        obtain ⟨h1, h2, h3⟩ := h
        cases dt with
        | seq its n =>
          simp only [Bool.and_eq_true, decide_eq_true_eq] at h3
          obtain ⟨h3, h4⟩ := h3
          obtain ⟨vs, r, rl⟩ := valsB_ok hl h4
          refine ⟨.ref a, rfl, fun H ι => .tup (.inr ⟨_, its, n, q, h1, rfl, h3, r⟩) (rl H ι), fun b z => ?_⟩
          cases z
          exact ⟨_, q, h2⟩
        | _ => cases h3
    | _ => simp [valB] at h
  | .ref i, u, h => by simp [valB] at h
  | .tz i, u, h => by simp [valB] at h
theorem valsB_ok {K : PySem.W.Frag} {lk : Addr → Option Obj} (hl : ∀ a, K.lookup a = lk a) : ∀ {ts : List T} {us : List Value}, valsB lk ts us = true → ∃ vs, Vals vs us ∧ ∀ (H : Hp) (ι : List Addr), RepL K H ι ts vs
  | [], us, h => by
    cases us with
    | nil => exact ⟨[], .nil, fun _ _ => .nil⟩
    | cons _ _ => simp [valsB] at h
  | t :: ts, us, h => by
    cases us with
    | nil => simp [valsB] at h
    | cons u us =>
      simp only [valsB, Bool.and_eq_true] at h
      obtain ⟨v, r1, r2, _⟩ := valB_ok hl h.1
      obtain ⟨vs, s1, s2⟩ := valsB_ok hl h.2
      exact ⟨v :: vs, .cons r1 s1, fun H ι => .cons (r2 H ι) (s2 H ι)⟩
end
theorem sclB_ok {K : PySem.W.Frag} {A : Addr} (h : sclB K A = true) : SlX.SCls K A := by
  obtain ⟨h1, h⟩ := He.ba h
  obtain ⟨h2, h⟩ := He.ba h
  obtain ⟨h3, h4⟩ := He.ba h
  exact ⟨h1, h2, h3, He.eqO_ok h4⟩
theorem slotB_ok {K : PySem.W.Frag} {A : Addr} {f : Str} {p : Addr} {i : Nat} (h : slotB K A f p i = true) : SlX.Slot1 K A f p i := by
  obtain ⟨h1, h⟩ := He.ba h
  obtain ⟨h2, h⟩ := He.ba h
  obtain ⟨h3, h⟩ := He.ba h
  obtain ⟨h4, h⟩ := He.ba h
  obtain ⟨h5, h6⟩ := He.ba h
  exact ⟨He.eqO_ok h1, He.eqO_ok h2, of_decide_eq_true h3, of_decide_eq_true h4, of_decide_eq_true h5, of_decide_eq_true h6⟩
/-- the first of that name -/
def kfind : List (Str × Kd) → Str → Option Kd
  | [], _ => none
  | (y, k) :: r, x => bif decide (y = x) then some k else kfind r x
section
variable {g : Addr → Option Obj} {x : Str}
theorem entB_key {e : DictEntry} {p : Str × Kd} (h : entB g e p = true) : ∃ t, e.key = .str p.1 t := by
  have h1 := (He.ba h).1
  cases q : e.key with
  | str y t =>
    rw [q] at h1
    exact ⟨t, by rw [of_decide_eq_true h1]⟩
  | _ => rw [q] at h1; cases h1
theorem ents_find : ∀ {es : List DictEntry} {exp : List (Str × Kd)} {k : Kd}, entsB g es exp = true → kfind exp x = some k → ∃ e, es.find? (·.key.isStr x) = some e ∧ entB g e (x, k) = true ∧ (e, (x, k)) ∈ es.zip exp
  | [], [], _, _, e => by cases e
  | [], _ :: _, _, h, _ => by cases h
  | _ :: _, [], _, h, _ => by cases h
  | e :: es, (y, k') :: ps, k, h, hk => by
    obtain ⟨h1, h2⟩ := He.ba (show (entB g e (y, k') && entsB g es ps) = true from h)
    obtain ⟨t, ht⟩ := entB_key h1
    unfold kfind at hk
    cases d : decide (y = x) with
    | true =>
      rw [d] at hk
      cases hk
      have := of_decide_eq_true d
      subst this
      exact ⟨e, by rw [List.find?_cons, ht]; show (match (y == y) with | true => some e | false => _) = _; rw [beq_self_eq_true], h1, List.mem_cons_self⟩
    | false =>
      rw [d] at hk
      obtain ⟨e', q1, q2, q3⟩ := ents_find h2 hk
      refine ⟨e', ?_, q2, List.mem_cons_of_mem _ q3⟩
      rw [List.find?_cons, ht]
      show (match (y == x) with | true => some e | false => es.find? (·.key.isStr x)) = _
      rw [beq_eq_false_iff_ne.mpr (of_decide_eq_false d)]
      exact q1
theorem ents_none : ∀ {es : List DictEntry} {exp : List (Str × Kd)}, entsB g es exp = true → kfind exp x = none → es.find? (·.key.isStr x) = none
  | [], [], _, _ => rfl
  | [], _ :: _, h, _ => by cases h
  | _ :: _, [], h, _ => by cases h
  | e :: es, (y, k') :: ps, h, hk => by
    obtain ⟨h1, h2⟩ := He.ba (show (entB g e (y, k') && entsB g es ps) = true from h)
    obtain ⟨t, ht⟩ := entB_key h1
    unfold kfind at hk
    cases d : decide (y = x) with
    | true => rw [d] at hk; cases hk
    | false =>
      rw [d] at hk
      rw [List.find?_cons, ht]
      show (match (y == x) with | true => some e | false => es.find? (·.key.isStr x)) = _
      rw [beq_eq_false_iff_ne.mpr (of_decide_eq_false d)]
      exact ents_none h2 hk
theorem ents_ref : ∀ {es : List DictEntry} {exp : List (Str × Kd)}, entsB g es exp = true → es.any (·.refKey) = false
  | [], [], _ => rfl
  | [], _ :: _, h => by cases h
  | _ :: _, [], h => by cases h
  | e :: es, p :: ps, h => by
    obtain ⟨h1, h2⟩ := He.ba (show (entB g e p && entsB g es ps) = true from h)
    obtain ⟨t, ht⟩ := entB_key h1
    rw [List.any_cons, ents_ref h2, Bool.or_false]
    unfold DictEntry.refKey
    rw [ht]
/-- the defs' numbers are those of their sequence -/
def idxB : Nat → List (Str × Kd) → Bool
  | _, [] => true
  | j, (_, k) :: r => match k with
    | .fn i _ => Nat.beq i j && idxB (j + 1) r
    | .mk i _ => Nat.beq i j && idxB (j + 1) r
    | _ => idxB j r
def Kd.num : Kd → Option Nat
  | .fn k _ => some k
  | .mk k _ => some k
  | _ => none
theorem idx_le : ∀ {exp : List (Str × Kd)} {j : Nat} {p : Str × Kd} {k : Nat}, idxB j exp = true → p ∈ exp → p.2.num = some k → j ≤ k
  | [], _, _, _, _, h, _ => by cases h
  | (y, k') :: ps, j, p, k, hi, hm, hk => by
    rcases List.mem_cons.mp hm with e | hm2
    · subst e
      cases k' with
      | fn i q =>
        have e : i = k := Option.some.inj hk
        subst e
        exact Nat.le_of_eq (Nat.eq_of_beq_eq_true (He.ba (show (Nat.beq i j && idxB (j + 1) ps) = true from hi)).1).symm
      | mk i q =>
        have e : i = k := Option.some.inj hk
        subst e
        exact Nat.le_of_eq (Nat.eq_of_beq_eq_true (He.ba (show (Nat.beq i j && idxB (j + 1) ps) = true from hi)).1).symm
      | con _ _ => cases hk
      | cls => cases hk
      | any => cases hk
    · clear hm
      cases k' with
      | fn i q => exact Nat.le_of_succ_le (idx_le (He.ba (show (Nat.beq i j && idxB (j + 1) ps) = true from hi)).2 hm2 hk)
      | mk i q => exact Nat.le_of_succ_le (idx_le (He.ba (show (Nat.beq i j && idxB (j + 1) ps) = true from hi)).2 hm2 hk)
      | con _ _ => exact idx_le (show idxB j ps = true from hi) hm2 hk
      | cls => exact idx_le (show idxB j ps = true from hi) hm2 hk
      | any => exact idx_le (show idxB j ps = true from hi) hm2 hk
theorem fns_get : ∀ {es : List DictEntry} {exp : List (Str × Kd)} {j : Nat} {e : DictEntry} {p : Str × Kd} {k : Nat}, idxB j exp = true → (e, p) ∈ es.zip exp → p.2.num = some k → (fnsAt g es exp)[k - j]? = some (fnAt g e.val)
  | [], _, _, _, _, _, _, h, _ => by simp at h
  | _ :: _, [], _, _, _, _, _, h, _ => by simp at h
  | e' :: es, (y, k') :: ps, j, e, p, k, hi, hm, hk => by
    rw [List.zip_cons_cons] at hm
    have step : ∀ {i : Nat} {w : He.FnW}, Nat.beq i j = true → idxB (j + 1) ps = true → (e, p) ∈ es.zip ps → (w :: fnsAt g es ps)[k - j]? = some (fnAt g e.val) := fun {i w} h1 h2 hm => by
      have hle := idx_le h2 (List.of_mem_zip hm).2 hk
      have ih := fns_get h2 hm hk
      rw [show k - j = (k - (j + 1)) + 1 by omega, List.getElem?_cons_succ]
      exact ih
    rcases List.mem_cons.mp hm with h | hm2
    · obtain ⟨h1, h2⟩ := Prod.mk.inj h
      subst h1 h2
      cases k' with
      | fn i q =>
        have e : i = k := Option.some.inj hk
        subst e
        have := Nat.eq_of_beq_eq_true (He.ba (show (Nat.beq i j && idxB (j + 1) ps) = true from hi)).1
        rw [this, Nat.sub_self]; rfl
      | mk i q =>
        have e : i = k := Option.some.inj hk
        subst e
        have := Nat.eq_of_beq_eq_true (He.ba (show (Nat.beq i j && idxB (j + 1) ps) = true from hi)).1
        rw [this, Nat.sub_self]; rfl
      | con _ _ => cases hk
      | cls => cases hk
      | any => cases hk
    · clear hm
      cases k' with
      | fn i q =>
        obtain ⟨h1, h2⟩ := He.ba (show (Nat.beq i j && idxB (j + 1) ps) = true from hi)
        exact step h1 h2 hm2
      | mk i q =>
        obtain ⟨h1, h2⟩ := He.ba (show (Nat.beq i j && idxB (j + 1) ps) = true from hi)
        exact step h1 h2 hm2
      | con _ _ => exact fns_get (es := es) (exp := ps) (show idxB j ps = true from hi) hm2 hk
      | cls => exact fns_get (es := es) (exp := ps) (show idxB j ps = true from hi) hm2 hk
      | any => exact fns_get (es := es) (exp := ps) (show idxB j ps = true from hi) hm2 hk
/-- a def out of the looks -/
theorem fnB_ok {K : PySem.W.Frag} {v : Value} {q : Str} {w : Str × Str × Stmt} (hl : ∀ a, K.lookup a = noTbl (g a)) (h : fnB g v q = true) (hq : w.2.1 = q) (e : fnAt g v = valW w) :
    ∃ f fd, v = .ref f ∧ FunD K w.1 w.2.1 (C8.fnArgs w.2.2) (C8.fnBody w.2.2) (C8.fnScope w.2.2) [] [] f fd := by
  unfold fnB at h
  unfold fnAt at e
  cases v with
  | ref f =>
    simp only at h e
    cases q1 : g f with
    | none => rw [q1] at h; cases h
    | some o =>
      rw [q1] at h e
      obtain ⟨oc, od, dt, osl⟩ := o
      cases dt with
      | func fd =>
        simp only at h e
        obtain ⟨h1, h2⟩ := He.ba h
        obtain ⟨n1, n2, n3, n4, n5, n6, n7, n8, n9, n10, n11, n12, n13, n14, n15⟩ := fd
        have e2 : (some (n1, n2, n3, n4, n5, n6, n7, n15) : He.FnW) = some (w.1, w.2.1, C8.fnArgs w.2.2, .stmts (C8.fnBody w.2.2), C8.fnScope w.2.2, mainGlobals, [], builtinsNs) := e
        simp only [Option.some.injEq, Prod.mk.injEq] at e2
        obtain ⟨z1, z2, z3, z4, z5, z6, z7, z8⟩ := e2
        have hd : n8 = .none := by
          cases n8 <;> first | rfl | cases h1
        subst hd
        have hK : K.lookup f = some ⟨oc, od, .func ⟨n1, n2, n3, n4, n5, n6, n7, .none, n9, n10, n11, n12, n13, n14, n15⟩, osl⟩ := by rw [hl f, q1]; rfl
        have hc : PySem.W.codeIn K n13 w.2.1 = true := by
          rw [hq]
          have h2' : codeB g n13 q = true := h2
          unfold codeB at h2'
          unfold PySem.W.codeIn
          cases n13 with
          | ref c =>
            simp only at h2' ⊢
            rw [hl c]
            cases q2 : g c with
            | none => rw [q2] at h2'; cases h2'
            | some o =>
              rw [q2] at h2'
              obtain ⟨oc2, od2, dt2, osl2⟩ := o
              cases dt2 with
              | fields vs =>
                have hne : Nat.beq vs.size 0 = false := by
                  cases hb : Nat.beq vs.size 0 with
                  | false => rfl
                  | true =>
                    have := Nat.eq_of_beq_eq_true hb
                    have : vs.toList = [] := by
                      rw [← List.length_eq_zero_iff, Array.length_toList]; exact this
                    simp only [this] at h2'
                    cases h2'
                unfold noTbl
                simp only [hne, cond_false]
                exact h2'
              | _ => cases h2'
          | _ => cases h2'
        subst z1 z2 z3 z4 z5 z6 z7 z8
        refine ⟨f, _, rfl, ⟨oc, od, .none, n9, n10, n11, n12, n13, n14, osl, rfl, hK, hc, .inl ⟨rfl, rfl⟩, .inl rfl⟩, ?_⟩
        unfold PySem.W.keepIn
        simp only [hK]
      | _ => cases h
  | _ => cases h
end
theorem find_in {α : Type} : ∀ {l : List (Str × α)} {x : Str} {a : α}, find l x = some a → (x, a) ∈ l
  | [], _, _, e => by cases e
  | (y, b) :: r, x, a, e => by
    unfold find at e
    cases d : decide (y = x) with
    | true => rw [d] at e; cases e; rw [of_decide_eq_true d]; exact List.mem_cons_self
    | false => rw [d] at e; exact List.mem_cons_of_mem _ (find_in e)
end Gn

/-! TabOk from what is looked at behind the top. -/
namespace Gn
open PySem PySem.Spec PyProof.Rows L2

mutual
def T.beq : T → T → Bool
  | .non, .non => true
  | .bl a, .bl b => a == b
  | .int a, .int b => decide (a = b)
  | .str a, .str b => decide (a = b)
  | .tup a, .tup b => T.beqL a b
  | .ref a, .ref b => Nat.beq a b
  | .tz a, .tz b => decide (a = b)
  | _, _ => false
def T.beqL : List T → List T → Bool
  | [], [] => true
  | a :: as, b :: bs => T.beq a b && T.beqL as bs
  | _, _ => false
end
mutual
theorem T.beq_eq : ∀ {a b : T}, T.beq a b = true → a = b
  | .non, b, h => by cases b <;> first | rfl | (simp [T.beq] at h)
  | .bl _, b, h => by cases b <;> simp [T.beq] at h <;> rw [h]
  | .int _, b, h => by cases b <;> simp [T.beq] at h <;> rw [h]
  | .str _, b, h => by cases b <;> simp [T.beq] at h <;> rw [h]
  | .tup as, b, h => by
    cases b with
    | tup bs =>
      have e : as = bs := T.beqL_eq (show T.beqL as bs = true by simpa [T.beq] using h)
      rw [e]
    | _ => simp [T.beq] at h
  | .ref i, b, h => by
    cases b with
    | ref j =>
      have e : i = j := Nat.eq_of_beq_eq_true (show Nat.beq i j = true by simpa [T.beq] using h)
      rw [e]
    | _ => simp [T.beq] at h
  | .tz _, b, h => by cases b <;> simp [T.beq] at h <;> rw [h]
theorem T.beqL_eq : ∀ {a b : List T}, T.beqL a b = true → a = b
  | [], b, h => by cases b <;> first | rfl | (simp [T.beqL] at h)
  | a :: as, b, h => by
    cases b with
    | nil => simp [T.beqL] at h
    | cons b bs =>
      simp only [T.beqL, Bool.and_eq_true] at h
      rw [T.beq_eq h.1, T.beqL_eq h.2]
end
/-- what is said of the heap behind the top -/
structure Told (K : PySem.W.Frag) (g : Addr → Option Obj) (h : Heap) (exp : List (Str × Kd)) (cs : List Cd) (ck : PySem.W.Frag → Bool) (fs ms : List (Str × Str × Stmt)) : Prop where
  KX : K.In h
  lk : ∀ a, K.lookup a = noTbl (g a)
  gh : ∀ a o, g a = some o → h.get? a = some o
  ns : ∀ x k, kfind exp x = some k → ∃ e, PySem.W.nsIn K mainGlobals x = some (some e.val) ∧ entB g e (x, k) = true ∧ (e, (x, k)) ∈ (gEs g).zip exp
  no : ∀ x, kfind exp x = none → PySem.W.nsIn K mainGlobals x = some none
  fn : fnsAt g (gEs g) exp = fs.map valW
  cd : cdsAt K g cs = ms.map valW
  cb : cs.all (cdB K g) = true
  ck : ck K = true
theorem told {h : Heap} {exp : List (Str × Kd)} {cs : List Cd} {cl : List Str} {ck : PySem.W.Frag → Bool} {fs ms : List (Str × Str × Stmt)} {w : World} (hne : exp ≠ []) (Y : (hookX exp cs cl ck fs ms).says w h) : ∃ K g, Told K g h exp cs ck fs ms := by
  obtain ⟨g, n, h1, h2, e⟩ := Y
  obtain ⟨e1, e2⟩ := Prod.mk.inj e
  obtain ⟨e2, e3⟩ := Prod.mk.inj e2
  obtain ⟨b1, b⟩ := He.ba e1
  obtain ⟨b2, b3⟩ := He.ba b
  have lk := KG_get (sp := spG g cl) h2
  have hg : ∃ c d es n sl, g mainGlobals = some ⟨c, d, .dict es n, sl⟩ ∧ gEs g = es.toList := by
    cases q : g mainGlobals with
    | none =>
      exfalso
      have : gEs g = [] := by unfold gEs; rw [q]
      rw [this] at b1
      cases exp with
      | nil => exact hne rfl
      | cons _ _ => cases b1
    | some o =>
      obtain ⟨c, d, dt, sl⟩ := o
      cases dt with
      | dict es n => exact ⟨c, d, es, n, sl, rfl, by unfold gEs; rw [q]⟩
      | _ =>
        exfalso
        have : gEs g = [] := by unfold gEs; rw [q]
        rw [this] at b1
        cases exp with
        | nil => exact hne rfl
        | cons _ _ => cases b1
  obtain ⟨c, d, es, n', sl, hm, hes⟩ := hg
  have hK : (KG g n (spG g cl)).lookup mainGlobals = some ⟨c, d, .dict es n', sl⟩ := by rw [lk, hm]; rfl
  refine ⟨KG g n (spG g cl), g, KG_in h1, lk, h1, fun x k hk => ?_, fun x hk => ?_, e2, e3, b2, b3⟩
  · obtain ⟨e, q1, q2, q3⟩ := ents_find b1 hk
    refine ⟨e, ?_, q2, q3⟩
    unfold PySem.W.nsIn
    rw [hK]
    simp only
    rw [← hes, q1]
  · have q1 := ents_none b1 hk
    have q2 := ents_ref b1
    unfold PySem.W.nsIn
    rw [hK]
    simp only
    rw [← hes, q1]
    simp [q2]
/-! ### pure looks at the table -/
def kdFn (exp : List (Str × Kd)) (x q : Str) (k : Nat) : Bool := match kfind exp x with
  | some (.fn j p) => Nat.beq j k && decide (p = q)
  | some (.mk j p) => Nat.beq j k && decide (p = q)
  | _ => false
def fsB (exp : List (Str × Kd)) : List (Str × Str × Stmt) → Nat → Bool
  | [], _ => true
  | w :: r, k => kdFn exp w.1 w.2.1 k && fsB exp r (k + 1)
def flatOf (cs : List Cd) : List (Str × Str × Nat) := cs.flatMap fun c => c.ms.map fun m => (c.x, m.1, m.2)
def glB (exp : List (Str × Kd)) (cs : List Cd) (fs : List (Str × Str × Stmt)) (ms : List (Str × Str × Str × Stmt)) (cons : List (Str × T)) (p : Str × Gb) : Bool := match p.2 with
  | .con k => (match kfind exp p.1, cons[k]? with
    | some (.con _ t), some q => T.beq t q.2
    | _, _ => false)
  | .fn k => (match fs[k]? with
    | some w => decide (w.1 = p.1) && kdFn exp w.1 w.2.1 k
    | none => false)
  | .cls k => cs.any fun c => decide (c.x = p.1) && ((match kfind exp c.x with | some .cls => true | _ => false) && (match ms[k - fs.length]? with
    | some q => Nat.ble fs.length k && (decide (q.1 = c.x) && decide (q.2.1 = sInit))
    | none => false))
def slB (exp : List (Str × Kd)) (cs : List Cd) (q : Str × Str × Nat) : Bool := cs.any fun c => decide (c.x = q.2.1) && ((match kfind exp c.x with | some .cls => true | _ => false) && decide (c.sl[q.2.2]? = some q.1))
def msB (exp : List (Str × Kd)) (cs : List Cd) (fs : List (Str × Str × Stmt)) (ms : List (Str × Str × Str × Stmt)) (q : Str × Str × Nat) : Bool := cs.any fun c => decide (c.x = q.2.1) && ((match kfind exp c.x with | some .cls => true | _ => false) && (c.ms.any (fun m => decide (m.1 = q.1)) && (match ms[q.2.2 - fs.length]? with
    | some r => Nat.ble fs.length q.2.2 && (decide (r.1 = c.x) && decide (r.2.1 = q.1))
    | none => false)))
def layB (exp : List (Str × Kd)) (cs : List Cd) (fs : List (Str × Str × Stmt)) (ms : List (Str × Str × Str × Stmt)) (cons : List (Str × T)) (z : List Str) : Bool :=
  idxB 0 exp && (fsB exp fs 0 && (decide ((flatOf cs).map (fun p => (p.1, p.2.1)) = ms.map (fun q => (q.1, q.2.1))) && (ms.all (fun q => decide (q.2.2.1 = q.1 ++ dot ++ q.2.1)) && (bNames.all (fun x => (kfind exp x).isNone) &&
    ((layOf exp cs fs ms cons z).gl.all (glB exp cs fs ms cons) && ((layOf exp cs fs ms cons z).sl.all (slB exp cs) && (layOf exp cs fs ms cons z).ms.all (msB exp cs fs ms)))))))
section
variable {K : PySem.W.Frag} {g : Addr → Option Obj} {h : Heap} {exp : List (Str × Kd)} {cs : List Cd} {ck : PySem.W.Frag → Bool} {fs : List (Str × Str × Stmt)} {ms : List (Str × Str × Stmt)} {mg : Str → Option Value} {x : Str}
theorem Told.mg_none (t : Told K g h exp cs ck fs ms) (G : h.Ns mainGlobals mg) (hk : kfind exp x = none) : mg x = none := PySem.W.mg_none_of t.KX G (t.no x hk)
theorem ga_of {a : Addr} (e : PySem.W.nsIn K mainGlobals x = some (some (.ref a))) : He.ga K x = a := by
  unfold He.ga
  rw [e]
theorem Told.mg_cls (t : Told K g h exp cs ck fs ms) (G : h.Ns mainGlobals mg) (hk : kfind exp x = some .cls) : mg x = some (.ref (He.ga K x)) := by
  obtain ⟨e, h1, h2, _⟩ := t.ns x _ hk
  have h3 := (He.ba h2).2
  simp only at h3
  split at h3
  · rename_i a ha
    rw [ha] at h1
    rw [ga_of h1]
    exact PySem.W.mg_of t.KX G h1
  · cases h3
theorem fsB_get : ∀ {fs : List (Str × Str × Stmt)} {j k : Nat} {w : Str × Str × Stmt}, fsB exp fs j = true → fs[k]? = some w → kdFn exp w.1 w.2.1 (j + k) = true
  | [], _, _, _, _, e => by simp at e
  | u :: r, j, 0, w, h, e => by
    simp at e
    subst e
    exact (He.ba (show (kdFn exp u.1 u.2.1 j && fsB exp r (j + 1)) = true from h)).1
  | u :: r, j, k + 1, w, h, e => by
    have := fsB_get (He.ba (show (kdFn exp u.1 u.2.1 j && fsB exp r (j + 1)) = true from h)).2 (by simpa using e)
    rw [show j + (k + 1) = j + 1 + k by omega]
    exact this
/-- a def of the module by its name -/
theorem Told.def_ (t : Told K g h exp cs ck fs ms) (G : h.Ns mainGlobals mg) (hi : idxB 0 exp = true) {k : Nat} {w : Str × Str × Stmt} (hw : fs[k]? = some w) (hk : kdFn exp w.1 w.2.1 k = true) :
    mg w.1 = some (.ref (He.ga K w.1)) ∧ ∃ fd, FunD K w.1 w.2.1 (C8.fnArgs w.2.2) (C8.fnBody w.2.2) (C8.fnScope w.2.2) [] [] (He.ga K w.1) fd := by
  have core : ∀ kd : Kd, kfind exp w.1 = some kd → kd.num = some k → (∀ e, entB g e (w.1, kd) = true → fnB g e.val w.2.1 = true) → mg w.1 = some (.ref (He.ga K w.1)) ∧ ∃ fd, FunD K w.1 w.2.1 (C8.fnArgs w.2.2) (C8.fnBody w.2.2) (C8.fnScope w.2.2) [] [] (He.ga K w.1) fd := fun kd h1 h2 h3 => by
    obtain ⟨e, q1, q2, q3⟩ := t.ns _ _ h1
    have q4 := fns_get (g := g) hi q3 h2
    rw [t.fn, Nat.sub_zero, List.getElem?_map, hw] at q4
    have q5 : fnAt g e.val = valW w := (Option.some.inj q4).symm
    obtain ⟨f, fd, q6, q7⟩ := fnB_ok t.lk (h3 e q2) rfl q5
    rw [q6] at q1
    rw [ga_of q1]
    exact ⟨PySem.W.mg_of t.KX G q1, fd, q7⟩
  unfold kdFn at hk
  split at hk
  · rename_i j p hf
    obtain ⟨h1, h2⟩ := He.ba hk
    have h1 := Nat.eq_of_beq_eq_true h1
    have h2 := of_decide_eq_true h2
    subst h1 h2
    exact core _ hf rfl fun e he => (He.ba he).2
  · rename_i j p hf
    obtain ⟨h1, h2⟩ := He.ba hk
    have h1 := Nat.eq_of_beq_eq_true h1
    have h2 := of_decide_eq_true h2
    subst h1 h2
    exact core _ hf rfl fun e he => (He.ba (He.ba he).2).1
  · cases hk
theorem cdsAt_flat : cdsAt K g cs = (flatOf cs).map fun p => fnAt g (.ref (He.ma K (He.ga K p.1) p.2.1)) := by
  unfold cdsAt flatOf
  rw [List.map_flatMap]
  congr 1
  funext c
  rw [List.map_map]
  rfl
end
theorem lay_ok {C : Tx} {g : Addr → Option Obj} {h : Heap} {exp : List (Str × Kd)} {cs : List Cd} {ck : PySem.W.Frag → Bool} {fs : List (Str × Str × Stmt)} {ms : List (Str × Str × Str × Stmt)} {cons : List (Str × T)} {z : List Str}
    (t : Told C.K g h exp cs ck fs (ms.map fun q => (q.2.1, q.2.2.1, q.2.2.2))) (G : h.Ns mainGlobals C.mg) (hb : layB exp cs fs ms cons z = true) (gd : (layOf exp cs fs ms cons z).good = true) : TabOk C (layOf exp cs fs ms cons z).G (layOf exp cs fs ms cons z).tb := by
  obtain ⟨a1, hb⟩ := He.ba hb
  obtain ⟨a2, hb⟩ := He.ba hb
  obtain ⟨a3, hb⟩ := He.ba hb
  obtain ⟨a4, hb⟩ := He.ba hb
  obtain ⟨a5, hb⟩ := He.ba hb
  obtain ⟨a6, hb⟩ := He.ba hb
  obtain ⟨a7, a8⟩ := He.ba hb
  have a3 := of_decide_eq_true a3
  generalize hL : layOf exp cs fs ms cons z = L at *
  have ents : L.ents = (fs.map fun q => (none, q.1, q.2.1, q.2.2)) ++ ms.map fun q => (some q.1, q.2.1, q.2.2.1, q.2.2.2) := by rw [← hL]; rfl
  have hcons : L.cons = cons.map (·.2) := by rw [← hL]; rfl
  have get : ∀ {k : Nat} {q}, L.ents[k]? = some q → L.tb[k]? = some (L.ent q) := fun {k q} e => by unfold Lay.tb; rw [List.getElem?_map, e]; rfl
  have mem : ∀ {e}, e ∈ L.tb → ∃ q ∈ L.ents, L.ent q = e := fun {e} h => List.mem_map.mp h
  have getF : ∀ {k : Nat} {w}, fs[k]? = some w → L.ents[k]? = some (none, w.1, w.2.1, w.2.2) := fun {k w} e => by
    rw [ents, List.getElem?_append_left (by simpa using (List.getElem?_eq_some_iff.mp e).1), List.getElem?_map, e]; rfl
  have getM : ∀ {k : Nat} {w}, fs.length ≤ k → ms[k - fs.length]? = some w → L.ents[k]? = some (some w.1, w.2.1, w.2.2.1, w.2.2.2) := fun {k w} hle e => by
    rw [ents, List.getElem?_append_right (by simpa using hle), List.length_map, List.getElem?_map, e]; rfl
  have meth : ∀ {j : Nat} {w}, ms[j]? = some w → ∃ c ∈ cs, ∃ m ∈ c.ms, c.x = w.1 ∧ m.1 = w.2.1 ∧ ∃ fd, FunD C.K w.2.1 w.2.2.1 (C8.fnArgs w.2.2.2) (C8.fnBody w.2.2.2) (C8.fnScope w.2.2.2) [] [] (He.ma C.K (He.ga C.K w.1) w.2.1) fd := fun {j w} hj => by
    have e1 : ((flatOf cs).map (fun p => (p.1, p.2.1)))[j]? = some (w.1, w.2.1) := by rw [a3, List.getElem?_map, hj]; rfl
    rw [List.getElem?_map] at e1
    cases q : (flatOf cs)[j]? with
    | none => rw [q] at e1; cases e1
    | some p =>
      rw [q] at e1
      have e2 := Option.some.inj e1
      obtain ⟨e3, e4⟩ := Prod.mk.inj e2
      have hp : p ∈ flatOf cs := List.mem_of_getElem? q
      unfold flatOf at hp
      obtain ⟨c, hc, hp⟩ := List.mem_flatMap.mp hp
      obtain ⟨m, hm, rfl⟩ := List.mem_map.mp hp
      have e3 : c.x = w.1 := e3
      have e4 : m.1 = w.2.1 := e4
      have cb := List.all_eq_true.mp t.cb c hc
      obtain ⟨_, cb⟩ := He.ba cb
      obtain ⟨_, cb⟩ := He.ba cb
      obtain ⟨cb, _⟩ := He.ba cb
      have mb := (He.ba (List.all_eq_true.mp cb m hm)).2
      have e5 := t.cd
      rw [cdsAt_flat] at e5
      have e6 : ((flatOf cs).map fun p => fnAt g (.ref (He.ma C.K (He.ga C.K p.1) p.2.1)))[j]? = ((ms.map fun q => (q.2.1, q.2.2.1, q.2.2.2)).map valW)[j]? := by rw [e5]
      rw [List.getElem?_map, q, List.getElem?_map, List.getElem?_map, hj] at e6
      have e7 : fnAt g (.ref (He.ma C.K (He.ga C.K c.x) m.1)) = valW (w.2.1, w.2.2.1, w.2.2.2) := Option.some.inj e6
      have hq : w.2.2.1 = c.x ++ dot ++ m.1 := by
        have := of_decide_eq_true (List.all_eq_true.mp a4 w (List.mem_of_getElem? hj))
        rw [this, e3, e4]
      obtain ⟨f, fd, e8, e9⟩ := fnB_ok t.lk mb hq e7
      cases e8
      rw [e3, e4] at e9
      exact ⟨c, hc, m, hm, e3, e4, fd, e9⟩
  refine ⟨rfl, fun e he => ?_, fun x hx => ?_, fun e he x b hb => ?_, fun e he f q hq => ?_, fun e he m q hq => ?_⟩
  · obtain ⟨q, hq, rfl⟩ := mem he
    refine ⟨List.all_eq_true.mp gd _ he, ?_⟩
    rw [ents] at hq
    rcases List.mem_append.mp hq with hq | hq
    · obtain ⟨w, hw, rfl⟩ := List.mem_map.mp hq
      obtain ⟨k, hk, rfl⟩ := List.getElem_of_mem hw
      have hk' : fs[k]? = some fs[k] := List.getElem?_eq_getElem hk
      have z := fsB_get a2 hk'
      rw [Nat.zero_add] at z
      exact (t.def_ G a1 hk' z).2
    · obtain ⟨w, hw, rfl⟩ := List.mem_map.mp hq
      obtain ⟨k, hk, rfl⟩ := List.getElem_of_mem hw
      obtain ⟨c, _, m, _, _, _, z⟩ := meth (List.getElem?_eq_getElem hk)
      exact z
  · have := List.all_eq_true.mp a5 x hx
    exact t.mg_none G (Option.isNone_iff_eq_none.mp this)
  · obtain ⟨q, hq, rfl⟩ := mem he
    have zz := List.all_eq_true.mp a6 _ (find_in hb)
    unfold glB at zz
    cases b with
    | con k =>
      simp only at zz ⊢
      split at zz
      · rename_i j' t' p h1 h2
        have e1 := T.beq_eq zz
        obtain ⟨e, q1, q2, _⟩ := t.ns _ _ h1
        obtain ⟨v, r1, r2, r3⟩ := valB_ok t.lk (He.ba q2).2
        exact ⟨t', e.val, v, by show L.cons[k]? = _; rw [hcons, List.getElem?_map, h2, e1]; rfl, PySem.W.mg_of t.KX G q1, r1, r2, r3⟩
      · cases zz
    | fn k =>
      simp only at zz ⊢
      split at zz
      · rename_i w hw
        obtain ⟨z1, z2⟩ := He.ba zz
        have e1 := of_decide_eq_true z1
        obtain ⟨d1, _⟩ := t.def_ G a1 hw z2
        rw [← e1]
        exact ⟨_, get (getF hw), rfl, d1⟩
      · cases zz
    | cls k =>
      obtain ⟨c, hc, zy⟩ := List.any_eq_true.mp zz
      clear zz
      obtain ⟨z1, zx⟩ := He.ba zy
      clear zy
      obtain ⟨z2, zw⟩ := He.ba zx
      clear zx
      have e1 : c.x = x := of_decide_eq_true z1
      clear z1
      subst e1
      split at z2
      · rename_i hk
        split at zw
        · rename_i w hw
          obtain ⟨z3, zv⟩ := He.ba zw
          obtain ⟨z4, z5⟩ := He.ba zv
          have e4 := of_decide_eq_true z4
          have e5 := of_decide_eq_true z5
          have cb := List.all_eq_true.mp t.cb c hc
          obtain ⟨_, cb⟩ := He.ba cb
          obtain ⟨_, cb⟩ := He.ba cb
          obtain ⟨_, cb⟩ := He.ba cb
          refine ⟨_, _, get (getM (Nat.le_of_ble_eq_true z3) hw), t.mg_cls G hk, ?_⟩
          have := He.mkr_ok cb
          show Mk C.K _ (He.ma C.K (He.ga C.K w.1) w.2.1)
          rw [e4, e5]
          exact this
        · cases zw
      · cases z2
  · obtain ⟨q', hq', rfl⟩ := mem he
    have zz := List.all_eq_true.mp a7 _ (find_in hq)
    obtain ⟨c, hc, zz⟩ := List.any_eq_true.mp zz
    obtain ⟨z1, zz⟩ := He.ba zz
    obtain ⟨z2, zz⟩ := He.ba zz
    have e1 : c.x = q.1 := of_decide_eq_true z1
    have e2 := of_decide_eq_true zz
    split at z2
    · rename_i hk
      have cb := List.all_eq_true.mp t.cb c hc
      obtain ⟨c1, cb⟩ := He.ba cb
      obtain ⟨c2, _⟩ := He.ba cb
      have hm : (f, q.2) ∈ c.sl.zipIdx := by
        rw [List.mem_zipIdx_iff_getElem?]
        exact e2
      have c3 := List.all_eq_true.mp c2 _ hm
      exact ⟨_, _, by rw [← e1]; exact t.mg_cls G hk, sclB_ok c1, slotB_ok c3⟩
    · cases z2
  · obtain ⟨q', hq', rfl⟩ := mem he
    have zz := List.all_eq_true.mp a8 _ (find_in hq)
    obtain ⟨c, hc, zz⟩ := List.any_eq_true.mp zz
    obtain ⟨z1, zz⟩ := He.ba zz
    obtain ⟨z2, zz⟩ := He.ba zz
    obtain ⟨z3, zz⟩ := He.ba zz
    have e1 : c.x = q.1 := of_decide_eq_true z1
    split at z2
    · rename_i hk
      obtain ⟨m', hm', z3⟩ := List.any_eq_true.mp z3
      have e3 : m'.1 = m := of_decide_eq_true z3
      split at zz
      · rename_i w hw
        obtain ⟨z4, zz⟩ := He.ba zz
        obtain ⟨z5, z6⟩ := He.ba zz
        have e5 := of_decide_eq_true z5
        have e6 : w.2.1 = m := of_decide_eq_true z6
        have cb := List.all_eq_true.mp t.cb c hc
        obtain ⟨c1, cb⟩ := He.ba cb
        obtain ⟨_, cb⟩ := He.ba cb
        obtain ⟨c2, _⟩ := He.ba cb
        have c3 := He.meth_ok (He.ba (List.all_eq_true.mp c2 _ hm')).1
        refine ⟨_, _, get (getM (Nat.le_of_ble_eq_true z4) hw), by rw [← e1]; exact t.mg_cls G hk, sclB_ok c1, ?_⟩
        show Meth C.K _ m (He.ma C.K (He.ga C.K w.1) w.2.1)
        rw [e5, e6, ← e3]
        exact c3
      · cases zz
    · cases z2
end Gn

set_option maxHeartbeats 4000000
/-! The law's own draws: _law_roll, _law_pick, _law_dice. -/
namespace Gn
open PySem PySem.Spec PyProof.Rows L2
def topAt (n : Nat) : Stmt := P79.main.body.getD n (.Pass ⟨0,0,0,0⟩)
abbrev sRoll : Stmt := topAt 222
abbrev sPick : Stmt := topAt 223
abbrev sDice : Stmt := topAt 221
def nRoll : List Str := ["dice", "total", "found", "one", "two"]
def nPick : List Str := ["dice", "items"]
def nDice : List Str := ["script", "spot", "cell", "left"]
theorem scRoll : FnScope nRoll ["dice", "total"] (C8.fnScope sRoll) := C8.fnScope_by (by decide +kernel)
theorem scPick : FnScope nPick ["dice", "items"] (C8.fnScope sPick) := C8.fnScope_by (by decide +kernel)
theorem scDice : FnScope nDice ["script", "spot"] (C8.fnScope sDice) := C8.fnScope_by (by decide +kernel)
/-- three ints -/
def Dc (H : Hp) (p : Addr) : Prop := ∃ a b c : Int, H p = some (.lst [.int a, .int b, .int c])
def spRoll : Sp := fun vs H Q _ => ∃ (p : Addr) (n : Int), vs = [.ref p, .int n] ∧ Dc H p ∧ 0 < n ∧ n < 1073741824 ∧ ∀ (r a b c : Int), 0 ≤ r → r < n → Q (.int r) (upd H p (.lst [.int a, .int b, .int c]))
section
variable {P : Program} {w : World} {K : PySem.W.Frag} {mg : Str → Option Value} {base : Heap} {f : Addr} {fd : FuncData}
theorem at0 {a b c : V} : atI [a, b, c] 0 = some a := rfl
theorem at1 {a b c : V} : atI [a, b, c] 1 = some b := rfl
theorem at2 {a b c : V} : atI [a, b, c] 2 = some c := rfl
theorem ok_roll {k : Nat} (F : FunD K "_law_roll" "_law_roll" (C8.fnArgs sRoll) (C8.fnBody sRoll) (C8.fnScope sRoll) [] [] f fd) (mI : mg "int" = none) : FnOk P w K mg base C8.CX0 (k + 1) f fd ["dice", "total"] spRoll := by
  refine F.ok scRoll (fun vs H Q E h => ?_) (fun cdv A outer s H vs Q E hr h => ?_)
  · obtain ⟨p, n, rfl, _⟩ := h
    rfl
  · have v0 : Vis (C8.fnScope sRoll) "dice" := .inl (by decide +kernel)
    have v1 : Vis (C8.fnScope sRoll) "total" := .inl (by decide +kernel)
    have v2 : Vis (C8.fnScope sRoll) "found" := .inl (by decide +kernel)
    have v3 : Vis (C8.fnScope sRoll) "one" := .inl (by decide +kernel)
    have v4 : Vis (C8.fnScope sRoll) "two" := .inl (by decide +kernel)
    have l2 : Loc (C8.fnScope sRoll) "found" := .inl (by decide +kernel)
    have l3 : Loc (C8.fnScope sRoll) "one" := .inl (by decide +kernel)
    have l4 : Loc (C8.fnScope sRoll) "two" := .inl (by decide +kernel)
    have gI : (C8.fnScope sRoll).names.lookup ("int" : Str) = some NameKind.globalImplicit := by decide +kernel
    refine ⟨_, PSs.nox (pss_cons (ps_if (pt_cmpR op_gt (pe_ix ix_list (pe_var (i := 0) rfl v0) pe_int (fun _ _ => rfl)) pe_int (nomark _))
        (pss_cons (ps_set (i := 2) scRoll.nd rfl l2 (pe_op op_mod (pe_callTy call_int1 gI mI (by rfl) (pa_cons (pe_ix ix_list (pe_var (i := 0) rfl v0) pe_int (fun _ _ => rfl)) pa_nil)) (pe_var (i := 1) rfl v1)))
        (pss_cons (ps_asg (pe_op op_fdiv (pe_ix ix_list (pe_var (i := 0) rfl v0) pe_int (fun _ _ => rfl)) (pe_var (i := 1) rfl v1)) (pg_sub (pe_var (i := 0) rfl v0) pe_int set_list))
        (pss_one (ps_ret (pe_var (i := 2) rfl v2))))) pss_nil)
      (pss_cons (ps_asg (pe_op op_add (pe_ix ix_list (pe_var (i := 0) rfl v0) pe_int (fun _ _ => rfl)) pe_int) (pg_sub (pe_var (i := 0) rfl v0) pe_int set_list))
      (pss_cons (ps_set (i := 3) scRoll.nd rfl l3 (pe_op op_mod (pe_callTy call_int1 gI mI (by rfl) (pa_cons (pe_op op_add (pe_ix ix_list (pe_var (i := 0) rfl v0) pe_int (fun _ _ => rfl)) (pe_op op_mul pe_int (pe_ix ix_list (pe_var (i := 0) rfl v0) pe_int (fun _ _ => rfl)))) pa_nil)) pe_int))
      (pss_cons (ps_set (i := 4) scRoll.nd rfl l4 (pe_op op_add (pe_op op_mul (pe_op op_mod (pe_callTy call_int1 gI mI (by rfl) (pa_cons (pe_op op_add (pe_op op_mul (pe_var (i := 3) rfl v3) (pe_var (i := 3) rfl v3)) (pe_op op_mul pe_int (pe_ix ix_list (pe_var (i := 0) rfl v0) pe_int (fun _ _ => rfl)))) pa_nil)) pe_int) pe_int) (pe_var (i := 3) rfl v3)))
      (pss_one (ps_ret (pe_op op_mod (pe_callTy call_int1 gI mI (by rfl) (pa_cons (pe_op op_fdiv (pe_var (i := 4) rfl v4) pe_int) pa_nil)) (pe_var (i := 1) rfl v1)))))))), ?_⟩
    obtain ⟨p, n, rfl, ⟨a, b, c, e⟩, n0, n1, q⟩ := h
    have e1 : SqL K H p [.int a, .int b, .int c] := .inl (.inl e)
    refine ⟨.ref p, rfl, p, _, 0, _, rfl, rfl, e1, at0, a, 0, rfl, rfl, _, rfl, ite2 (fun _ => ?_) (fun _ => ?_)⟩
    · refine ⟨.ref p, rfl, p, _, 0, _, rfl, rfl, e1, at0, .inl ⟨a, rfl, .int n, rfl, a, n, rfl, rfl, n0, ?_⟩⟩
      refine ⟨.ref p, rfl, p, _, 0, _, rfl, rfl, e1, at0, .int n, rfl, a, n, rfl, rfl, ⟨n0, n1⟩, .ref p, rfl, p, _, 0, 0, rfl, rfl, e, rfl, ?_⟩
      exact ⟨.int (a % n), rfl, q _ _ _ _ (Int.emod_nonneg _ (by omega)) (Int.emod_lt_of_pos _ n0)⟩
    · refine ⟨.ref p, rfl, p, _, 2, _, rfl, rfl, e1, at2, c, 1, rfl, rfl, .ref p, rfl, p, _, 2, 2, rfl, rfl, e, rfl, ?_⟩
      have e2 : upd H p (.lst [.int a, .int b, .int (c + 1)]) p = some (.lst [.int a, .int b, .int (c + 1)]) := upd_same
      have e3 : SqL K (upd H p (.lst [.int a, .int b, .int (c + 1)])) p [.int a, .int b, .int (c + 1)] := .inl (.inl e2)
      refine ⟨.ref p, rfl, p, _, 1, _, rfl, rfl, e3, at1, .ref p, rfl, p, _, 2, _, rfl, rfl, e3, at2, 15485917, c + 1, rfl, rfl, .inl (by decide), b, _, rfl, rfl, .inl ⟨_, rfl, _, _, rfl, rfl, (by show (0 : Int) < 2305843009213693951; decide), ?_⟩⟩
      dsimp only
      have m0 : 0 ≤ (b + 15485917 * (c + 1)) % 2305843009213693951 := Int.emod_nonneg _ (by decide)
      have m1 : (b + 15485917 * (c + 1)) % 2305843009213693951 < 2305843009213693951 := Int.emod_lt_of_pos _ (by decide)
      generalize (b + 15485917 * (c + 1)) % 2305843009213693951 = o at m0 m1
      have so : -(2 ^ 64) < o ∧ o < 2 ^ 64 := by omega
      refine ⟨.int o, rfl, .int o, rfl, o, o, rfl, rfl, .inl so, .ref p, rfl, p, _, 2, _, rfl, rfl, e3, at2, 173, c + 1, rfl, rfl, .inl (by decide), _, _, rfl, rfl, .inl ⟨_, rfl, _, _, rfl, rfl, (by show (0 : Int) < 2305843009213693907; decide), ?_⟩⟩
      dsimp only
      have k0 : 0 ≤ (o * o + 173 * (c + 1)) % 2305843009213693907 := Int.emod_nonneg _ (by decide)
      have k1 : (o * o + 173 * (c + 1)) % 2305843009213693907 < 2305843009213693907 := Int.emod_lt_of_pos _ (by decide)
      generalize (o * o + 173 * (c + 1)) % 2305843009213693907 = t at k0 k1
      refine ⟨t, _, rfl, rfl, .inl (by omega), .int o, rfl, _, _, rfl, rfl, ?_⟩
      refine ⟨_, rfl, _, _, rfl, rfl, ⟨(by decide : (0 : Int) < 65536), (by decide : (65536 : Int) < 1073741824)⟩, .inl ⟨_, rfl, .int n, rfl, _, n, rfl, rfl, n0, ?_⟩⟩
      exact q _ _ _ _ (Int.emod_nonneg _ (by omega)) (Int.emod_lt_of_pos _ n0)
/-- items[_law_roll(dice, len(items))] -/
def spPick (K : PySem.W.Frag) : Sp := fun vs H Q _ => ∃ (p q : Addr) (xs : List V), vs = [.ref p, .ref q] ∧ Dc H p ∧ q ≠ p ∧ SqL K H q xs ∧ xs ≠ [] ∧ xs.length < 1073741824 ∧ ∀ (i : Nat) (v : V) (a b c : Int), xs[i]? = some v → Q v (upd H p (.lst [.int a, .int b, .int c]))
theorem sql_upd {H : Hp} {p q : Addr} {xs : List V} {o : HO} (h : SqL K H q xs) (ne : q ≠ p) : SqL K (upd H p o) q xs := by
  rcases h with (h | ⟨ob, h⟩) | h
  · exact .inl (.inl (by rw [upd_ne ne]; exact h))
  · exact .inl (.inr ⟨ob, by rw [upd_ne ne]; exact h⟩)
  · exact .inr h
theorem ok_pick {k : Nat} (F : FunD K "_law_pick" "_law_pick" (C8.fnArgs sPick) (C8.fnBody sPick) (C8.fnScope sPick) [] [] f fd) (mL : mg "len" = none) (R : C8.Cal P w K mg base k "_law_roll" spRoll []) : FnOk P w K mg base C8.CX0 (k + 1) f fd ["dice", "items"] (spPick K) := by
  refine F.ok scPick (fun vs H Q E h => ?_) (fun cdv A outer s H vs Q E hr h => ?_)
  · obtain ⟨p, q, xs, rfl, _⟩ := h
    rfl
  · have v0 : Vis (C8.fnScope sPick) "dice" := .inl (by decide +kernel)
    have v1 : Vis (C8.fnScope sPick) "items" := .inl (by decide +kernel)
    have gR : (C8.fnScope sPick).names.lookup ("_law_roll" : Str) = some NameKind.globalImplicit := by decide +kernel
    have gL : (C8.fnScope sPick).names.lookup ("len" : Str) = some NameKind.globalImplicit := by decide +kernel
    refine ⟨_, PSs.nox (pss_one (ps_ret (pe_ix ix_list (pe_var (i := 1) rfl v1) (C8.pe_c R hr (Nat.le_refl _) gR (pa_cons (pe_var (i := 0) rfl v0) (pa_cons (pe_callB call_len_seq gL mL PySem.boot_len (pa_cons (pe_var (i := 1) rfl v1) pa_nil)) pa_nil))) (fun _ _ => rfl)))), ?_⟩
    obtain ⟨p, q, xs, rfl, hd, ne, hq, h0, h1, qq⟩ := h
    have hl : 0 < xs.length := List.length_pos_iff.mpr h0
    refine ⟨.ref q, rfl, .ref p, rfl, .ref q, rfl, q, xs, rfl, .inl hq, ?_⟩
    refine ⟨p, (xs.length : Int), rfl, hd, by omega, by omega, fun r a b c r0 r1 => ?_⟩
    obtain ⟨j, rfl⟩ := Int.eq_ofNat_of_zero_le r0
    have hj : j < xs.length := by omega
    exact ⟨q, xs, (j : Int), xs[j], rfl, rfl, sql_upd hq ne, atI_nat (List.getElem?_eq_getElem hj), qq j _ a b c (List.getElem?_eq_getElem hj)⟩
def spDice (K : PySem.W.Frag) : Sp := fun vs H Q _ => ∃ (a : Addr) (ns : List Int) (i : Nat), vs = [.ref a, .int i] ∧ SqL K H a (ns.map V.int) ∧ i < 1000 ∧ ∀ (p : Addr) (x y z : Int), H p = none → Q (.ref p) (upd H p (.lst [.int x, .int y, .int z]))
theorem ok_dice {k : Nat} (F : FunD K "_law_dice" "_law_dice" (C8.fnArgs sDice) (C8.fnBody sDice) (C8.fnScope sDice) [] [] f fd) (mL : mg "len" = none) (mI : mg "int" = none) (mM : mg "max" = none) (mA : mg "abs" = none) : FnOk P w K mg base C8.CX0 (k + 1) f fd ["script", "spot"] (spDice K) := by
  refine F.ok scDice (fun vs H Q E h => ?_) (fun cdv A outer s H vs Q E hr h => ?_)
  · obtain ⟨a, ns, i, rfl, _⟩ := h
    rfl
  · have v0 : Vis (C8.fnScope sDice) "script" := .inl (by decide +kernel)
    have v1 : Vis (C8.fnScope sDice) "spot" := .inl (by decide +kernel)
    have v2 : Vis (C8.fnScope sDice) "cell" := .inl (by decide +kernel)
    have v3 : Vis (C8.fnScope sDice) "left" := .inl (by decide +kernel)
    have l2 : Loc (C8.fnScope sDice) "cell" := .inl (by decide +kernel)
    have l3 : Loc (C8.fnScope sDice) "left" := .inl (by decide +kernel)
    have gI : (C8.fnScope sDice).names.lookup ("int" : Str) = some NameKind.globalImplicit := by decide +kernel
    have gL : (C8.fnScope sDice).names.lookup ("len" : Str) = some NameKind.globalImplicit := by decide +kernel
    have gM : (C8.fnScope sDice).names.lookup ("max" : Str) = some NameKind.globalImplicit := by decide +kernel
    have gA : (C8.fnScope sDice).names.lookup ("abs" : Str) = some NameKind.globalImplicit := by decide +kernel
    refine ⟨_, PSs.nox (pss_cons (ps_set (i := 2) scDice.nd rfl l2 (pe_ifExp (pt_cmpR op_lt (pe_var (i := 1) rfl v1) (pe_callB call_len_seq gL mL PySem.boot_len (pa_cons (pe_var (i := 0) rfl v0) pa_nil)) (nomark _)) (pe_callTy call_int1 gI mI (by rfl) (pa_cons (pe_ix ix_list (pe_var (i := 0) rfl v0) (pe_var (i := 1) rfl v1) (fun _ _ => rfl)) pa_nil)) (pe_op op_add (pe_op op_mul pe_int (pe_var (i := 1) rfl v1)) pe_int)))
      (pss_cons (ps_set (i := 3) scDice.nd rfl l3 (pe_op op_mod (pe_callB (call_max2 rfl) gM mM (by rfl) (pa_cons pe_int (pa_cons (pe_op op_sub (pe_callB call_abs gA mA (by rfl) (pa_cons (pe_var (i := 2) rfl v2) pa_nil)) (pe_op op_pow pe_int pe_int)) pa_nil))) (pe_op op_mulW (pe_op op_pow pe_int pe_int) (pe_op op_pow pe_int pe_int))))
      (pss_one (ps_ret (pe_lst (pa_cons (pe_var (i := 3) rfl v3) (pa_cons (pe_op op_add (pe_op op_add (pe_op op_add (pe_op op_mul (pe_op op_mod (pe_callB call_abs gA mA (by rfl) (pa_cons (pe_var (i := 2) rfl v2) pa_nil)) pe_int) pe_int) (pe_op op_mul pe_int (pe_var (i := 1) rfl v1))) (pe_op op_mul pe_int (pe_callTy call_int1 gI mI (by rfl) (pa_cons (pe_cmpR op_lt (pe_var (i := 2) rfl v2) pe_int (nomark _)) pa_nil)))) pe_int) (pa_cons pe_int pa_nil)))))))), ?_⟩
    obtain ⟨a, ns, i, rfl, hS, hi, q⟩ := h
    have cp1 : CPow 10 17 := ⟨by decide, by decide, by decide⟩
    have cp2 : CPow 10 60 := ⟨by decide, by decide, by decide⟩
    have cm : CMulW (10 ^ (60 : Int).toNat) (10 ^ (60 : Int).toNat) := by unfold CMulW; decide +kernel
    have cz : (0 : Int) < 10 ^ (60 : Int).toNat * 10 ^ (60 : Int).toNat := by decide +kernel
    refine ⟨.int i, rfl, .ref a, rfl, a, _, rfl, .inl hS, _, _, rfl, rfl, _, rfl, ite2 (fun hlt => ?_) (fun _ => ?_)⟩
    · have hlt := of_decide_eq_true hlt
      have hl : i < ns.length := by
        rw [List.length_map] at hlt
        omega
      have hg : (ns.map V.int)[i]? = some (.int ns[i]) := by rw [List.getElem?_map, List.getElem?_eq_getElem hl]; rfl
      refine ⟨.ref a, rfl, .int i, rfl, a, _, (i : Int), _, rfl, rfl, hS, atI_nat hg, .inl ⟨_, rfl, ?_⟩⟩
      generalize ns[i] = c
      refine ⟨.int c, rfl, c, rfl, 10, 17, rfl, rfl, cp1, _, _, rfl, rfl, _, _, rfl, 10, 60, rfl, rfl, cp2, 10, 60, rfl, rfl, cp2, _, _, rfl, rfl, cm, _, _, rfl, rfl, cz, ?_⟩
      refine ⟨_, rfl, .int c, rfl, c, rfl, _, _, rfl, rfl, (by show (0 : Int) < 1152921504606846793; decide), ?_⟩
      refine ⟨_, _, rfl, rfl, .inr (by decide), .int i, rfl, _, _, rfl, rfl, .inl (by decide), _, _, rfl, rfl, ?_⟩
      refine ⟨.int c, rfl, _, _, rfl, rfl, .inr ⟨_, rfl, _, _, rfl, rfl, .inl (by decide), _, _, rfl, rfl, _, _, rfl, rfl, ?_⟩⟩
      exact ⟨by show 3 ≤ sizeLine; rw [sizeLine_eq]; decide, fun p hp => q p _ _ _ hp⟩
    · refine ⟨.int i, rfl, _, _, rfl, rfl, .inl (by decide), _, _, rfl, rfl, ?_⟩
      dsimp only
      generalize 89 * (i : Int) + 71 = c
      refine ⟨.int c, rfl, c, rfl, 10, 17, rfl, rfl, cp1, _, _, rfl, rfl, _, _, rfl, 10, 60, rfl, rfl, cp2, 10, 60, rfl, rfl, cp2, _, _, rfl, rfl, cm, _, _, rfl, rfl, cz, ?_⟩
      refine ⟨_, rfl, .int c, rfl, c, rfl, _, _, rfl, rfl, (by show (0 : Int) < 1152921504606846793; decide), ?_⟩
      refine ⟨_, _, rfl, rfl, .inr (by decide), .int i, rfl, _, _, rfl, rfl, .inl (by decide), _, _, rfl, rfl, ?_⟩
      refine ⟨.int c, rfl, _, _, rfl, rfl, .inr ⟨_, rfl, _, _, rfl, rfl, .inl (by decide), _, _, rfl, rfl, _, _, rfl, rfl, ?_⟩⟩
      exact ⟨by show 3 ≤ sizeLine; rw [sizeLine_eq]; decide, fun p hp => q p _ _ _ hp⟩
end
end Gn

set_option maxHeartbeats 0
/-! k79: the menus as the engine has them; the engine's runs on them. -/
namespace Gn
open PySem PySem.Spec PyProof.Rows L2
def L79 : Lay := layOf exp79 cs79 fs79 ms79 cons79 ["word_in_web"]
def fi79 (k : Nat) : FI := (L79.G.fns[k]?).getD ⟨0, 0, []⟩
def rn79 (k : Nat) (ts : List T) (h : Hi) : Option (T × Hi) := runF (run L79.G 3000) 60 (fi79 k) ts h
def hb79_0 : List T := [.str "unit", .tup []]
def hb79_2 : List T := [.non, .tup [], .int 0, .str "unit", .tup [.str "unit"], .ref 0, .tup [.str "Unit", .tup []], .tup [.non, .tup []], .ref 1, .tup [.tup []], .tup [.tup [.str "unit"], .tup []]]
def hb79_3 : List T := [.tup [.str "one rim", .tup [.int 2, .int 3, .int 1, .int 0]], .tup [.str "one rim", .tup [.int 2, .int 3, .int 1, .int 0], .tup [.int 1, .int 0]], .tup [.str "more rims", .tup [.int 2, .int 3, .int 1, .int 0], .tup [.int 2]], .tup [.str "one rim", .tup [.int 0], .tup []]]
def hb79_4 : List T := hb79_2 ++ hb79_3
def hb79_5 : List T := [.int 0]
def hb79_6 : List T := [.tup [.str "one rim", .tup [.int 2, .int 3, .int 1, .int 0], .ref 5], .tup [.str "flat turn", .tup [.int 0, .int 0]], .tup [.str "odd round", .tup [.int 2, .int 3, .int 1, .int 0], .tup []], .tup [.str "flat turn", .non]]
def hb79_7 : List T := hb79_4 ++ hb79_6
def hb79_8 : List T := [.tup [.str "turn of", .tup [.int 2, .int 3, .int 1, .int 0], .tup [.int 1, .int 0]], .tup [.str "no turn", .tup [.int 2, .int 3, .int 1, .int 0]], .tup [.str "alike", .tup [.int 2, .int 3, .int 1, .int 0]], .tup [.str "unlike", .tup [.int 2, .int 3, .int 1, .int 0], .tup [.int 0, .int 2]]]
def hb79_9 : List T := hb79_7 ++ hb79_8
def hb79_10 : List T := [.int 1, .int 2, .int 3, .int 4, .int 5, .int 6, .int 7, .int 8, .int 9, .int 10, .int 11, .int 12, .int 13, .int 14, .int 15, .int 16, .int 17, .int 0]
def hb79_11 : List T := [.tup [.str "turn of", .tup [.int 1, .int 2, .int 3, .int 4, .int 5, .int 6, .int 7, .int 8, .int 9, .int 10, .int 11, .int 12, .int 13, .int 14, .int 15, .int 16, .int 17, .int 0], .tup [.int 1, .int 2, .int 3, .int 4, .int 5, .int 6, .int 7, .int 8, .int 9, .int 10, .int 11, .int 12, .int 13, .int 14, .int 15, .int 16, .int 17, .int 0]], .tup [.str "unit", .tup [.tup [.int 0, .int 2], .tup [.int (-2), .int 0]]], .tup [.str "bad part", .tup [.tup [.int 0, .int 1], .tup [.int 1, .int 0]]]]
def hb79_12 : List T := hb79_9 ++ hb79_11
def hb79_13 : List T := [.tup []]
def hb79_14 : List T := [.tup [.str "unit", .ref 13], .tup [.str "unit", .tup [], .tup []], .tup [.str "even system", .tup [.int 2, .tup []]], .tup [.str "barred", .tup [.int 9, .tup [.tup []]]]]
def hb79_15 : List T := hb79_12 ++ hb79_14
def hb79_16 : List T := [.tup [.str "even system", .tup [.int 2, .tup [.tup [.int 0], .tup []]]], .tup [.str "by a graph", .tup [.int 2, .tup [.tup [.int 0, .int 1]]]]]
def hb79_17 : List T := [.non, .tup [], .int 0, .str "unit", .tup [.str "unit"], .ref 0, .tup [.str "Unit", .tup []], .tup [.non, .tup []], .ref 1, .tup [.tup []], .tup [.tup [.str "unit"], .tup []], .tup [.str "one rim", .tup [.int 2, .int 3, .int 1, .int 0]], .tup [.str "one rim", .tup [.int 2, .int 3, .int 1, .int 0], .tup [.int 1, .int 0]], .tup [.str "more rims", .tup [.int 2, .int 3, .int 1, .int 0], .tup [.int 2]], .tup [.str "one rim", .tup [.int 0], .tup []], .tup [.str "one rim", .tup [.int 2, .int 3, .int 1, .int 0], .ref 5], .tup [.str "flat turn", .tup [.int 0, .int 0]], .tup [.str "odd round", .tup [.int 2, .int 3, .int 1, .int 0], .tup []], .tup [.str "flat turn", .non], .tup [.str "turn of", .tup [.int 2, .int 3, .int 1, .int 0], .tup [.int 1, .int 0]], .tup [.str "no turn", .tup [.int 2, .int 3, .int 1, .int 0]], .tup [.str "alike", .tup [.int 2, .int 3, .int 1, .int 0]], .tup [.str "unlike", .tup [.int 2, .int 3, .int 1, .int 0], .tup [.int 0, .int 2]], .tup [.str "turn of", .tup [.int 1, .int 2, .int 3, .int 4, .int 5, .int 6, .int 7, .int 8, .int 9, .int 10, .int 11, .int 12, .int 13, .int 14, .int 15, .int 16, .int 17, .int 0], .tup [.int 1, .int 2, .int 3, .int 4, .int 5, .int 6, .int 7, .int 8, .int 9, .int 10, .int 11, .int 12, .int 13, .int 14, .int 15, .int 16, .int 17, .int 0]], .tup [.str "unit", .tup [.tup [.int 0, .int 2], .tup [.int (-2), .int 0]]], .tup [.str "bad part", .tup [.tup [.int 0, .int 1], .tup [.int 1, .int 0]]], .tup [.str "unit", .ref 13], .tup [.str "unit", .tup [], .tup []], .tup [.str "even system", .tup [.int 2, .tup []]], .tup [.str "barred", .tup [.int 9, .tup [.tup []]]], .tup [.str "even system", .tup [.int 2, .tup [.tup [.int 0], .tup []]]], .tup [.str "by a graph", .tup [.int 2, .tup [.tup [.int 0, .int 1]]]], .tup [.str "by no graph", .tup [.int 2, .tup [.tup [.int 0], .tup [.int 1]]]]]
def hb79_18 : List T := [.tup [.str "best", .tup [.int 2, .tup [.tup [], .tup [.int 0]]], .tup [.int 1, .int 1], .tup []], .tup [.str "best", .tup [.int 2, .tup [.tup [], .tup [.int 0, .int 1]]], .tup [.int 1], .tup []]]
def hb79_19 : List T := hb79_17 ++ hb79_18
def hb79_20 : List T := [.tup [.str "better", .tup [.int 2, .tup [.tup [], .tup [.int 0, .int 1]]], .tup [.int 1, .bl true], .tup []], .tup [.str "best", .tup [.int 2, .tup [.tup [], .tup [.int 0, .int 1]]], .tup [.int 1, .int 1], .tup [.int 0]]]
def hb79_21 : List T := hb79_19 ++ hb79_20
def hb79_22 : List T := [.int 1, .int 1]
def hb79_23 : List T := [.tup [.str "best", .tup [.int 2, .tup [.tup [], .tup [.int 0, .int 1]]], .ref 22, .tup []], .tup [.str "led", .tup [.int 2, .tup [.tup [.int 0, .int 1]]], .tup [.int 3, .tup []]], .tup [.str "not led", .tup [.int 8, .tup []], .tup [.int 8, .tup []]]]
def hb79_24 : List T := hb79_21 ++ hb79_23
def hb79_25 : List T := [.tup [.str "led", .tup [.int 2, .tup [.tup [.int 0, .int 1]]]], .tup [.str "chords", .tup [.int 9, .tup []]], .tup [.str "no chords", .tup [.int 2, .tup [.tup [.int 1, .int 0]]]], .tup [.str "chords", .tup [.int 2, .tup [.tup [.int 0, .int 1]]], .tup []]]
def hb79_26 : List T := hb79_24 ++ hb79_25
def hb79_27 : List T := [.tup [.str "handles", .tup [.int 2, .tup [.tup [.int 0, .int 1]]]], .tup [.str "handles", .tup [.int 2, .tup [.tup [.int 0, .int 1]]], .int (-1)], .tup [.str "fewer", .tup [.int 2, .tup [.tup [.int 0, .int 1]]], .bl true], .tup [.str "handles", .tup [.int 2, .tup []], .int 0]]
def hb79_28 : List T := hb79_26 ++ hb79_27
def hb79_29 : List T := [.tup [.str "fewer", .tup [.int 2, .tup [.tup [.int 0, .int 1]]], .str "1"], .tup [.str "handles", .tup [.int 2, .tup [.tup [.int 0, .int 1], .tup [.int 0, .int 1]]], .int 0]]
def hb79_30 : List T := hb79_28 ++ hb79_29
def hb79_ : Hi := [.lst hb79_0, .dk [], .lst hb79_2, .lst hb79_3, .lst hb79_4, .lst hb79_5, .lst hb79_6, .lst hb79_7, .lst hb79_8, .lst hb79_9, .lst hb79_10, .lst hb79_11, .lst hb79_12, .lst hb79_13, .lst hb79_14, .lst hb79_15, .lst hb79_16, .lst hb79_17, .lst hb79_18, .lst hb79_19, .lst hb79_20, .lst hb79_21, .lst hb79_22, .lst hb79_23, .lst hb79_24, .lst hb79_25, .lst hb79_26, .lst hb79_27, .lst hb79_28, .lst hb79_29, .lst hb79_30]
def hg79_0 : List T := [.tup [.str "one rim", .tup [.int 2, .int 3, .int 1, .int 0], .tup [.int 0]], .tup [.str "flat turn", .tup [.int 2, .int 3, .int 1, .int 0]], .tup [.str "turn of", .tup [.int 2, .int 3, .int 1, .int 0], .tup [.int 2, .int 3, .int 1, .int 0]], .tup [.str "alike", .tup [.int 2, .int 3, .int 1, .int 0], .tup [.int 1, .int 0]]]
def hg79_1 : List T := [.tup [.str "unit", .tup [.tup [.int 0, .int 1], .tup [.int (-1), .int 0]]], .tup [.str "even system", .tup [.int 2, .tup [.tup [], .tup [.int 0]]]], .tup [.str "by a graph", .tup [.int 2, .tup [.tup [], .tup [.int 0, .int 1]]]]]
def hg79_2 : List T := hg79_0 ++ hg79_1
def hg79_3 : List T := [.tup [.str "best", .tup [.int 2, .tup [.tup [], .tup [.int 0, .int 1]]], .tup [.int (Int.ofNat (10 ^ 70)), .int (-1)], .tup []]]
def hg79_4 : List T := hg79_2 ++ hg79_3
def hg79_5 : List T := [.tup [.str "led", .tup [.int 2, .tup [.tup [.int 0, .int 1]]], .tup [.int 2, .tup []]], .tup [.str "chords", .tup [.int 2, .tup [.tup [.int 0, .int 1]]]]]
def hg79_6 : List T := hg79_4 ++ hg79_5
def hg79_7 : List T := [.tup [.str "handles", .tup [.int 2, .tup [.tup [.int 0, .int 1]]], .int (Int.ofNat (10 ^ 70))]]
def hg79_8 : List T := hg79_6 ++ hg79_7
def hg79_ : Hi := [.lst hg79_0, .lst hg79_1, .lst hg79_2, .lst hg79_3, .lst hg79_4, .lst hg79_5, .lst hg79_6, .lst hg79_7, .lst hg79_8]

theorem good79 : L79.good = true := by decide +kernel
theorem lay79 : layB exp79 cs79 fs79 ms79 cons79 ["word_in_web"] = true := by decide +kernel
theorem idx79 : idxB 0 exp79 = true := by decide +kernel
theorem run_bad : rn79 168 [] [] = some (.ref 30, hb79_) := by kernel_rfl
theorem run_good : rn79 167 [] [] = some (.ref 8, hg79_) := by kernel_rfl
theorem run_is : hb79_30.map (fun t => rn79 149 [t] hb79_) = hb79_30.map (fun _ => some (.bl false, hb79_)) := by kernel_rfl
end Gn

set_option maxHeartbeats 4000000
/-! k79: what the engine's runs say; what is refused. -/
namespace Gn
open PySem PySem.Spec PyProof.Rows L2
abbrev C79 (w : World) (K : PySem.W.Frag) (mg : Str → Option Value) : Tx := ⟨P79, w, K, mg⟩
/-- what lies behind the top -/
abbrev T79 (K : PySem.W.Frag) (g : Addr → Option Obj) (h : Heap) : Prop := Told K g h exp79 cs79 ck79 fs79 hm79
section
variable {w : World} {K : PySem.W.Frag} {mg : Str → Option Value} {g : Addr → Option Obj} {h base : Heap}
theorem kd79 {k : Nat} {x : Str × Str × Stmt} (hk : fs79[k]? = some x) : kdFn exp79 x.1 x.2.1 k = true := by
  have := fsB_get (He.ba (He.ba lay79).2).1 hk
  rwa [Nat.zero_add] at this
theorem def79 (t : T79 K g h) (G : h.Ns mainGlobals mg) {k : Nat} {x q : Str} {st : Stmt} (hk : fs79[k]? = some (x, q, st)) :
    ∃ f fd, mg x = some (.ref f) ∧ FunD K x q (C8.fnArgs st) (C8.fnBody st) (C8.fnScope st) [] [] f fd :=
  let ⟨h1, fd, h2⟩ := t.def_ G idx79 hk (kd79 hk)
  ⟨_, fd, h1, h2⟩
theorem ent79 {k : Nat} {x q : Str} {st : Stmt} (hk : fs79[k]? = some (x, q, st)) : L79.tb[k]? = some (L79.ent (none, x, q, st)) := by
  have e : L79.ents[k]? = some (none, x, q, st) := by
    show ((fs79.map fun q => (none, q.1, q.2.1, q.2.2)) ++ ms79.map fun q => (some q.1, q.2.1, q.2.2.1, q.2.2.2))[k]? = _
    rw [List.getElem?_append_left (by simpa using (List.getElem?_eq_some_iff.mp hk).1), List.getElem?_map, hk]
    rfl
  unfold Lay.tb
  rw [List.getElem?_map, e]
  rfl
theorem fi_eq79 {k : Nat} {x q : Str} {st : Stmt} (hk : fs79[k]? = some (x, q, st)) : (L79.ent (none, x, q, st)).fi = fi79 k := by
  unfold fi79
  have e : L79.G.fns[k]? = some (L79.ent (none, x, q, st)).fi := by
    show (L79.tb.map Ent.fi)[k]? = _
    rw [List.getElem?_map, ent79 hk]
    rfl
  rw [e]
  rfl
theorem tab79 (t : T79 K g h) (G : h.Ns mainGlobals mg) : TabOk (C79 w K mg) L79.G L79.tb := lay_ok t G lay79 good79
/-- a def by the engine -/
theorem cal79 (t : T79 K g h) (G : h.Ns mainGlobals mg) {k : Nat} {x q : Str} {st : Stmt} (hk : fs79[k]? = some (x, q, st)) : C8.Cal P79 w K mg base 61 x (spR (C79 w K mg) L79.G (fi79 k) 60) [] := by
  have k1 : Kept (C79 w K mg) L79.G base 60 (L79.ent (none, x, q, st)) := kept_all (tab79 t G) 60 k _ (ent79 hk)
  have := k1.cal (x := x) (t.def_ G idx79 hk (kd79 hk)).1
  rwa [fi_eq79 hk] at this
/-! ### what is refused -/
/-- a value of the menu of what is no claim -/
structure Bad (C : Tx) (ι : List Addr) (H : Hp) (v : V) : Prop where
  sr : SR C ι hb79_ H
  rep : ∃ t ∈ hb79_30, Rep C.K H ι t v
theorem To.same {C : Tx} {ι ι' : List Addr} {H H' : Hp} {h h' : Hi} (s : SR C ι h H) (to : To C ι H ι' h' H') (e : h'.length = h.length) : ι' = ι := by
  obtain ⟨m, e1, _⟩ := to.ext
  have h1 := to.sr.len
  have h2 := s.len
  rw [e1, List.length_append] at h1
  have : m.length = 0 := by omega
  rw [e1, List.eq_nil_of_length_eq_zero this, List.append_nil]
theorem Bad.to {C : Tx} {ι : List Addr} {H H' : Hp} {v : V} (b : Bad C ι H v) (to : To C ι H ι hb79_ H') : Bad C ι H' v :=
  ⟨to.sr, let ⟨t, h1, h2⟩ := b.rep; ⟨t, h1, to.rep b.sr h2⟩⟩
theorem map_at {α β : Type} {f g : α → β} : ∀ {l : List α}, l.map f = l.map g → ∀ a ∈ l, f a = g a
  | [], _, a, h => by cases h
  | x :: l, e, a, h => by
    rw [List.map_cons, List.map_cons] at e
    obtain ⟨e1, e2⟩ := List.cons.inj e
    rcases List.mem_cons.mp h with rfl | h
    · exact e1
    · exact map_at e2 a h
/-- says no: m values behind it -/
def spNo (C : Tx) (m : Nat) : Sp := fun vs H Q _ => ∃ v us ι, vs = v :: us ∧ us.length = m ∧ Bad C ι H v ∧ ∀ H', To C ι H ι hb79_ H' → Q (.bl false) H'
/-- raises -/
def spRef (C : Tx) (A : Addr) : Sp := fun vs H _ E => ∃ v ι, vs = [v] ∧ Bad C ι H v ∧ ∀ H', To C ι H ι hb79_ H' → E (.ref A) none H'
theorem no_in {C : Tx} : ∀ vs H Q E, spNo C 0 vs H Q E → spR C L79.G (fi79 149) 60 vs H Q E := by
  intro vs H Q E ⟨v, us, ι, e, hl, b, q⟩
  obtain rfl : us = [] := List.eq_nil_of_length_eq_zero hl
  subst e
  obtain ⟨t, ht, r⟩ := b.rep
  refine ⟨3000, ι, hb79_, [t], .bl false, hb79_, b.sr, .cons r .nil, rfl, map_at run_is t ht, fun ι' H' v' to rv => ?_⟩
  obtain rfl := To.same b.sr to rfl
  cases rv
  exact q H' to
abbrev sReq : Stmt := topAt 215
abbrev sIs : Stmt := topAt 216
abbrev sOpp : Stmt := topAt 217
abbrev sTak : Stmt := topAt 218
abbrev sSet : Stmt := topAt 219
theorem scReq : FnScope ["claim"] ["claim"] (C8.fnScope sReq) := C8.fnScope_by (by decide +kernel)
theorem scIs : FnScope ["claim"] ["claim"] (C8.fnScope sIs) := C8.fnScope_by (by decide +kernel)
theorem scOpp : FnScope ["claim"] ["claim"] (C8.fnScope sOpp) := C8.fnScope_by (by decide +kernel)
theorem scTak : FnScope ["claim", "paper"] ["claim", "paper"] (C8.fnScope sTak) := C8.fnScope_by (by decide +kernel)
theorem scSet : FnScope ["claim"] ["claim"] (C8.fnScope sSet) := C8.fnScope_by (by decide +kernel)
theorem pssN {X : Cx} {l : List Stmt} : PSs X l (fun _ _ _ => False) := ⟨fun _ _ _ _ _ _ q => q.elim⟩
theorem C8.Cal.imp {P : Program} {w : World} {K : PySem.W.Frag} {mg : Str → Option Value} {base : Heap} {k : Nat} {x : Str} {sp sp' : Sp} {dvs : List V} (c : C8.Cal P w K mg base k x sp dvs) (i : ∀ vs H Q E, sp' vs H Q E → sp vs H Q E) : C8.Cal P w K mg base k x sp' dvs := by
  obtain ⟨f, fd, ps, ds, h1, h2, h3, h4, h5⟩ := c.ex
  exact ⟨f, fd, ps, ds, h1.imp i, h2, h3, h4, h5⟩
/-- the exception's class -/
structure Inv79 (K : PySem.W.Frag) (mg : Str → Option Value) (A : Addr) : Prop where
  g : mg "InvalidClaim" = some (.ref A)
  x : PySem.W.excIn K A veB "ValueError.__new__" = true
  k : PySem.W.keepIn K (.ref A) = true
  b : PySem.W.subIn K (.ref A) (.type "BaseException") = some true
  t : PySem.W.typeIn K (.ref A) = some (.type "type")
  o : PySem.W.exmOne K (.ref A) (.ref A) = some true
theorem inv79 (t : T79 K g h) (G : h.Ns mainGlobals mg) : Inv79 K mg (He.ga K "InvalidClaim") := by
  have c : ck79 K = true := t.ck
  obtain ⟨c1, c⟩ := He.ba c
  obtain ⟨c2, c⟩ := He.ba c
  obtain ⟨c3, c⟩ := He.ba c
  obtain ⟨c4, c5⟩ := He.ba c
  exact ⟨t.mg_cls G (by kernel_rfl), c1, c2, of_decide_eq_true c3, of_decide_eq_true c4, of_decide_eq_true c5⟩
theorem glo {sc : Scope} {x : Str} (h : decide (sc.names.lookup x = some NameKind.globalImplicit) = true) : sc.names.lookup x = some NameKind.globalImplicit := of_decide_eq_true h
theorem TruV_bl {K : PySem.W.Frag} {H : Hp} {b : Bool} : TruV K (.bl b) H b := rfl
theorem bind_st {x q : Str} {st : Stmt} {f : Addr} {fd : FuncData} {ps : List Str} (F : FunD K x q (C8.fnArgs st) (C8.fnBody st) (C8.fnScope st) [] [] f fd) (hp : plainPars (C8.fnArgs st) ps = true) : Binds K fd ps [] :=
  F.bindsN fun _ _ _ _ _ _ _ hl => bind_plain hp rfl hl
/-- is_claim -/
theorem no_is (t : T79 K g h) (G : h.Ns mainGlobals mg) : C8.Cal P79 w K mg base 62 "is_claim" (spNo (C79 w K mg) 0) [] := by
  have I : C8.Cal P79 w K mg base 61 "is_claim_in" (spNo (C79 w K mg) 0) [] := C8.Cal.imp (cal79 t G (q := "is_claim_in") (st := topAt 207) (by kernel_rfl)) no_in
  obtain ⟨f, fd, hm, F⟩ := def79 t G (k := 158) (x := "is_claim") (q := "is_claim") (st := sIs) (by kernel_rfl)
  have bd : Binds K fd ["claim"] [] := bind_st F (by decide +kernel)
  refine ⟨f, fd, ["claim"], [], F.ok scIs (fun vs H Q E h => ?_) (fun cdv A outer s H vs Q E hr h => ?_), hm, F.kp, bd, .nil⟩
  · obtain ⟨v, us, ι, rfl, hl, _⟩ := h
    rw [List.length_cons, hl]
    rfl
  · have v0 : Vis (C8.fnScope sIs) "claim" := .inl (by decide +kernel)
    have gI : (C8.fnScope sIs).names.lookup ("is_claim_in" : Str) = some NameKind.globalImplicit := by decide +kernel
    refine ⟨_, PSs.nox (pss_one (ps_ret (C8.pe_c I hr (Nat.le_refl _) gI (pa_cons (pe_var (i := 0) rfl v0) pa_nil)))), ?_⟩
    obtain ⟨v, us, ι, rfl, hl, b, q⟩ := h
    obtain rfl : us = [] := List.eq_nil_of_length_eq_zero hl
    exact ⟨v, rfl, v, [], ι, rfl, rfl, b, q⟩
/-- takes -/
theorem no_takes (t : T79 K g h) (G : h.Ns mainGlobals mg) : C8.Cal P79 w K mg base 62 "takes" (spNo (C79 w K mg) 1) [] := by
  have I : C8.Cal P79 w K mg base 61 "is_claim_in" (spNo (C79 w K mg) 0) [] := C8.Cal.imp (cal79 t G (q := "is_claim_in") (st := topAt 207) (by kernel_rfl)) no_in
  obtain ⟨f, fd, hm, F⟩ := def79 t G (k := 160) (x := "takes") (q := "takes") (st := sTak) (by kernel_rfl)
  have bd : Binds K fd ["claim", "paper"] [] := bind_st F (by decide +kernel)
  refine ⟨f, fd, ["claim", "paper"], [], F.ok scTak (fun vs H Q E h => ?_) (fun cdv A outer s H vs Q E hr h => ?_), hm, F.kp, bd, .nil⟩
  · obtain ⟨v, us, ι, rfl, hl, _⟩ := h
    rw [List.length_cons, hl]
    rfl
  · have v0 : Vis (C8.fnScope sTak) "claim" := .inl (by decide +kernel)
    have gI : (C8.fnScope sTak).names.lookup ("is_claim_in" : Str) = some NameKind.globalImplicit := by decide +kernel
    refine ⟨_, PSs.nox (pss_cons (ps_if (pt_not (pt_truth (C8.pe_c I hr (Nat.le_refl _) gI (pa_cons (pe_var (i := 0) rfl v0) pa_nil)) (fun _ => rfl))) (pss_one (ps_ret pe_bl)) pss_nil) pssN), ?_⟩
    obtain ⟨v, us, ι, rfl, hl, b, q⟩ := h
    exact ⟨v, rfl, v, [], ι, rfl, rfl, b, fun H' to => ⟨false, TruV_bl, q H' to⟩⟩
/-- require_claim -/
theorem ref_req (t : T79 K g h) (G : h.Ns mainGlobals mg) : ∃ f fd, mg "require_claim" = some (.ref f) ∧ PySem.W.keepIn K (.ref f) = true ∧ Binds K fd ["claim"] [] ∧ FnOk P79 w K mg base (L2.CX P79 w) 62 f fd ["claim"] (spRef (C79 w K mg) (He.ga K "InvalidClaim")) := by
  have I : C8.Cal P79 w K mg base 61 "is_claim_in" (spNo (C79 w K mg) 0) [] := C8.Cal.imp (cal79 t G (q := "is_claim_in") (st := topAt 207) (by kernel_rfl)) no_in
  obtain ⟨f, fd, hm, F⟩ := def79 t G (k := 157) (x := "require_claim") (q := "require_claim") (st := sReq) (by kernel_rfl)
  have bd : Binds K fd ["claim"] [] := bind_st F (by decide +kernel)
  have V := inv79 t G
  refine ⟨f, fd, hm, F.kp, bd, F.ok scReq (fun vs H Q E h => ?_) (fun cdv A outer s H vs Q E hr h => ?_)⟩
  · obtain ⟨v, ι, rfl, _⟩ := h
    rfl
  · have v0 : Vis (C8.fnScope sReq) "claim" := .inl (by decide +kernel)
    have gI : (C8.fnScope sReq).names.lookup ("is_claim_in" : Str) = some NameKind.globalImplicit := by decide +kernel
    have gE : (C8.fnScope sReq).names.lookup ("InvalidClaim" : Str) = some NameKind.globalImplicit := by decide +kernel
    refine ⟨_, pss_cons (ps_if (pt_not (pt_truth (C8.pe_c I hr (Nat.le_refl _) gI (pa_cons (pe_var (i := 0) rfl v0) pa_nil)) (fun _ => rfl))) (pss_one (ps_raise rfl (takes_of rfl rfl rfl rfl) (pmk_own PySem.F.excBase_ValueError V.x V.g V.k (raises_own V.b V.t) gE))) pss_nil) pssN, ?_⟩
    obtain ⟨v, ι, rfl, b, q⟩ := h
    exact ⟨v, rfl, v, [], ι, rfl, rfl, b, fun H' to => ⟨false, TruV_bl, q H' to⟩⟩
/-- opposite -/
theorem ref_opp (t : T79 K g h) (G : h.Ns mainGlobals mg) : ∃ f fd, mg "opposite" = some (.ref f) ∧ PySem.W.keepIn K (.ref f) = true ∧ Binds K fd ["claim"] [] ∧ FnOk P79 w K mg base (L2.CX P79 w) 63 f fd ["claim"] (spRef (C79 w K mg) (He.ga K "InvalidClaim")) := by
  obtain ⟨fR, fdR, mR, kR, bR, R⟩ := ref_req (w := w) (base := base) t G
  obtain ⟨f, fd, hm, F⟩ := def79 t G (k := 159) (x := "opposite") (q := "opposite") (st := sOpp) (by kernel_rfl)
  have bd : Binds K fd ["claim"] [] := bind_st F (by decide +kernel)
  refine ⟨f, fd, hm, F.kp, bd, F.ok scOpp (fun vs H Q E h => ?_) (fun cdv A outer s H vs Q E hr h => ?_)⟩
  · obtain ⟨v, ι, rfl, _⟩ := h
    rfl
  · have v0 : Vis (C8.fnScope sOpp) "claim" := .inl (by decide +kernel)
    have gR : (C8.fnScope sOpp).names.lookup ("require_claim" : Str) = some NameKind.globalImplicit := by decide +kernel
    refine ⟨_, pss_cons (ps_expr (pe_call R hr gR mR kR bR .nil (passes_call (takes_of rfl rfl rfl rfl) (fun _ _ _ _ h => h)) (pa_cons (pe_var (i := 0) rfl v0) pa_nil))) pssN, ?_⟩
    obtain ⟨v, ι, rfl, b, q⟩ := h
    exact ⟨v, rfl, v, ι, rfl, b, q⟩
/-- settled -/
theorem ref_set (t : T79 K g h) (G : h.Ns mainGlobals mg) : ∃ f fd, mg "settled" = some (.ref f) ∧ PySem.W.keepIn K (.ref f) = true ∧ Binds K fd ["claim"] [] ∧ FnOk P79 w K mg base (L2.CX P79 w) 63 f fd ["claim"] (spRef (C79 w K mg) (He.ga K "InvalidClaim")) := by
  obtain ⟨fR, fdR, mR, kR, bR, R⟩ := ref_req (w := w) (base := base) t G
  obtain ⟨f, fd, hm, F⟩ := def79 t G (k := 161) (x := "settled") (q := "settled") (st := sSet) (by kernel_rfl)
  have bd : Binds K fd ["claim"] [] := bind_st F (by decide +kernel)
  refine ⟨f, fd, hm, F.kp, bd, F.ok scSet (fun vs H Q E h => ?_) (fun cdv A outer s H vs Q E hr h => ?_)⟩
  · obtain ⟨v, ι, rfl, _⟩ := h
    rfl
  · have v0 : Vis (C8.fnScope sSet) "claim" := .inl (by decide +kernel)
    have gR : (C8.fnScope sSet).names.lookup ("require_claim" : Str) = some NameKind.globalImplicit := by decide +kernel
    refine ⟨_, pss_cons (ps_expr (pe_call R hr gR mR kR bR .nil (passes_call (takes_of rfl rfl rfl rfl) (fun _ _ _ _ h => h)) (pa_cons (pe_var (i := 0) rfl v0) pa_nil))) pssN, ?_⟩
    obtain ⟨v, ι, rfl, b, q⟩ := h
    exact ⟨v, rfl, v, ι, rfl, b, q⟩
end
end Gn

/-! A lambda's maker; a call that is tried. -/
namespace Gn
open PySem PySem.Spec PyProof.Rows L2
section
variable {K : PySem.W.Frag} {g : Addr → Option Obj} {h : Heap} {exp : List (Str × Kd)} {cs : List Cd} {ck : PySem.W.Frag → Bool} {fs ms : List (Str × Str × Stmt)}
/-- a def that makes lambdas: its code object, the empty table -/
theorem mk_ok (t : Told K g h exp cs ck fs ms) {x q : Str} {j : Nat} (hk : kfind exp x = some (.mk j q)) :
    ∃ (f : Addr) (oc : Value) (od : Option Addr) (fd : FuncData) (osl : Array (Option Value)) (c P : Addr), PySem.W.nsIn K mainGlobals x = some (some (.ref f)) ∧ K.lookup f = some ⟨oc, od, .func fd, osl⟩ ∧ fd.code = .ref c ∧ (∃ o, h.get? c = some o ∧ PySem.W.codeHdIn [(c, o)] c P = true) ∧
      h.get? P = some { cls := .none, data := .fields #[] } ∧ K.lookup P = none := by
  obtain ⟨e, h1, h2, _⟩ := t.ns _ _ hk
  have h3 : tabB g e.val = true := (He.ba (He.ba h2).2).2
  unfold tabB at h3
  split at h3
  · rename_i f ef
    split at h3
    · rename_i oc od fd osl qf
      split at h3
      · rename_i c ec
        split at h3
        · rename_i o qc
          split at h3
          · rename_i vs ed
            split at h3
            · rename_i P eP
              obtain ⟨h4, h5⟩ := He.ba h3
              split at h5
              · rename_i ps sl qP
                obtain ⟨h6, h7⟩ := He.ba h5
                have e6 : ps = #[] := Array.eq_empty_of_size_eq_zero (Nat.eq_of_beq_eq_true h6)
                have e7 : sl = #[] := Array.eq_empty_of_size_eq_zero (Nat.eq_of_beq_eq_true h7)
                subst e6 e7
                rw [ef] at h1
                exact ⟨f, oc, od, fd, osl, c, P, h1, by rw [t.lk, qf]; rfl, ec, ⟨o, t.gh _ _ qc, h4⟩, t.gh _ _ qP, by rw [t.lk, qP]; rfl⟩
              · cases h5
            · cases h3
          · cases h3
        · cases h3
      · cases h3
    · cases h3
  · cases h3
end
/-! ### try: a() / except e: return r1; return r2 -/
def TTm (K : PySem.W.Frag) (CS : Addr) (r1 r2 : Str) : (XK → Hp → VK → Prop) → Hp → VK → Prop := fun tl H Q =>
  tl (fun cls _ H' => PySem.W.exmOne K cls (.ref CS) = some true ∧ Q (.str r1) H') H (fun _ H' => Q (.str r2) H')
theorem met_gives {X : Cx} {Ng : List Str} {x a e q r1 r2 : Str} {sg : Scope} {g CS : Addr} {cdg : Value} {j j2 : Nat} {p1 p2 p3 p4 p5 p6 p7 p8 p9 p10 : Pos} (hge : sg.names.lookup e = some .globalImplicit) (hme : X.mg e = some (.ref CS)) (hde : (e == ("__debug__" : Str)) = false) (h0 : ∀ f : Addr, (L2.start Ng [V.ref f])[0]? = some (some (V.ref f))) :
    LamX.GivesTo X Ng x sg g cdg [.Try [.Expr (.Call (.Name a p1) [] [] p2) p3] [.ExceptHandler (some (.Name e p4)) none [.Return (some (.Constant (.str r1) j p5)) p6] p7] [] [] p8, .Return (some (.Constant (.str r2) j2 p9)) p10] a q (TTm X.K CS r1 r2) := by
  intro f c' s H Q tl act hc h
  have hgl : Gl (cxOf C8.CX0 X.prog X.w X.K X.mg X.base Ng x sg g cdg X.A X.stack s H C8.E0).nox e := hge
  refine ⟨_, pss_cons (ps_try_only (X := (cxOf C8.CX0 X.prog X.w X.K X.mg X.base Ng x sg g cdg X.A X.stack s H C8.E0).nox) (c := .ref CS)
      (tb := fun W D σ H => ∃ Ech : XK, (∀ cls d σ' H', Ech cls d H' → W cls d σ' H') ∧ σ[0]? = some (some (.ref f)) ∧ H c' = some (LamX.CodeO c' q) ∧ tl Ech H fun _ H' => D.nx σ H')
      rfl rfl ⟨hgl, hde, .inl hme⟩ LamX.takes0 (fun W pn xe tk _ => ?_) (fun a oe cls d pn _ _ => pss_one (ps_ret pe_str))) (pss_one (ps_ret pe_str)), ?_⟩
  · refine ⟨fun pins s' σ H' D I h' => ?_⟩
    obtain ⟨Ech, hW, h1, h2, h3⟩ := h'
    exact (pss_one (ps_expr (pos := p3) (act W pn xe Ech p1 p2 tk hW))).run pins s' σ H' D I ⟨h1, h2, h3⟩
  · exact ⟨fun cls _ H' => PySem.W.exmOne X.K cls (.ref CS) = some true ∧ Q (.str r1) H', fun cls d σ' H' ⟨e1, e2⟩ => ⟨true, e1, fun _ a _ => e2, fun hb => by cases hb⟩, h0 f, hc, h⟩
end Gn

/-! _law_right: what is no claim. -/
namespace Gn
open PySem PySem.Spec PyProof.Rows L2
/-! ### what stays -/
theorem SR.mono {C : Tx} {ι : List Addr} {h : Hi} {H H' : Hp} {p : Addr} {ys : List V} (s : SR C ι h H) (hp : H p = some (.lst ys)) (np : p ∉ ι)
    (pl : ∀ a ∈ ι, ∀ ps, H a ≠ some (.tbl ps)) (k : ∀ b o, H b = some o → (∀ ps, o ≠ .tbl ps) → b ≠ p → H' b = some o) : SR C ι h H' ∧ ∀ t v, Rep C.K H ι t v → Rep C.K H' ι t v := by
  have ne : ∀ b o, H b = some o → (∀ xs, o ≠ .lst xs) → b ≠ p := fun b o e n z => by
    rw [z, hp] at e
    exact n ys (Option.some.inj e).symm
  have ht : KeepT C.K H H' := ⟨fun b xs q => by
    rcases q with (q | ⟨ob, q⟩) | q
    · exact .inl (.inl (k _ _ q (fun _ z => nomatch z) (ne _ _ q fun _ z => nomatch z)))
    · exact .inl (.inr ⟨ob, k _ _ q (fun _ z => nomatch z) (ne _ _ q fun _ z => nomatch z)⟩)
    · exact .inr q, fun b o u q => k _ _ q (fun _ z => nomatch z) (ne _ _ q fun _ z => nomatch z)⟩
  refine ⟨⟨s.len, s.nd, fun i a o e1 e2 => ?_⟩, fun t v r => r.at_ ht fun _ _ e => e⟩
  obtain ⟨u, eu⟩ := s.there (List.mem_of_getElem? e1)
  have hn : a ≠ p := fun z => np (z ▸ List.mem_of_getElem? e1)
  refine (s.ok i a o e1 e2).at_ (by rw [eu]; exact k _ _ eu (fun ps z => pl a (List.mem_of_getElem? e1) ps (by rw [eu, z])) hn) (fun b ps q => k _ _ q (fun _ z => nomatch z) (ne _ _ q fun _ z => nomatch z)) ht fun _ _ e => e
def plainMO : MO → Bool
  | .lst _ => true
  | .dk _ => true
  | _ => false
theorem SR.plain {C : Tx} {ι : List Addr} {h : Hi} {H : Hp} (s : SR C ι h H) (hp : h.all plainMO = true) {a : Addr} (ha : a ∈ ι) : (∃ xs, H a = some (.lst xs)) ∨ ∃ ws, H a = some (.dK ws) := by
  obtain ⟨i, o, e1, e2⟩ := s.get ha
  have ho := List.all_eq_true.mp hp o (List.mem_of_getElem? e2)
  have m := s.ok i a o e1 e2
  cases o with
  | lst ts => obtain ⟨vs, e, _⟩ := m; exact .inl ⟨_, e⟩
  | dk ts => obtain ⟨vs, e, _⟩ := m; exact .inr ⟨_, e⟩
  | _ => cases ho
theorem Tabs.to {C : Tx} {ι ι' : List Addr} {h h' : Hi} {H H' : Hp} {T : List (Addr × Str)} (t : LamX.Tabs T H) (s : SR C ι h H) (hp : h.all plainMO = true) (to : To C ι H ι' h' H') : LamX.Tabs T H' := fun q hq => by
  obtain ⟨ps, h1, h2, h3⟩ := t q hq
  have no : ∀ {b o}, H b = some o → (∀ xs, o ≠ .lst xs) → (∀ xs, o ≠ .dK xs) → H' b = some o := fun {b o} e n1 n2 => to.keep b o e fun hb => by
    rcases s.plain hp hb with ⟨xs, e2⟩ | ⟨xs, e2⟩
    · rw [e] at e2; exact n1 _ (Option.some.inj e2)
    · rw [e] at e2; exact n2 _ (Option.some.inj e2)
  refine ⟨ps, no h1 (fun _ z => nomatch z) (fun _ z => nomatch z), h2, fun pos cv hc => ?_⟩
  obtain ⟨c, e1, e2⟩ := h3 pos cv hc
  exact ⟨c, e1, no e2 (fun _ z => by cases z) (fun _ z => by cases z)⟩
theorem Tabs.but {T : List (Addr × Str)} {H H' : Hp} {p : Addr} {ys : List V} (t : LamX.Tabs T H) (hp : H p = some (.lst ys)) (k : ∀ b o, H b = some o → b ≠ p → H' b = some o) : LamX.Tabs T H' := fun q hq => by
  obtain ⟨ps, h1, h2, h3⟩ := t q hq
  have ne : ∀ b o, H b = some o → (∀ xs, o ≠ .lst xs) → H' b = some o := fun b o e n => k b o e fun z => by
    rw [z, hp] at e
    exact n ys (Option.some.inj e).symm
  refine ⟨ps, ne _ _ h1 (fun _ z => nomatch z), h2, fun pos cv hc => ?_⟩
  obtain ⟨c, e1, e2⟩ := h3 pos cv hc
  exact ⟨c, e1, ne _ _ e2 (fun _ z => by cases z)⟩
/-! ### the def -/
abbrev sRight : Stmt := topAt 228
abbrev sMet : Stmt := topAt 225
def nRight : List Str := ["dice", "turn", "told", "claim", "other", "kept", "paper", "value"]
theorem scRight : FnScope nRight ["dice"] (C8.fnScope sRight) := C8.fnScope_by (by decide +kernel)
theorem scMet : FnScope ["call"] ["call"] (C8.fnScope sMet) := C8.fnScope_by (by decide +kernel)
def forB : List Stmt → List Stmt
  | .For (body := b) .. :: _ => b
  | _ => []
abbrev XR (w : World) (K : PySem.W.Frag) (mg : Str → Option Value) (base : Heap) (f cc : Addr) (A : Around) (outer : List Env) (s : Shared) (H : Hp) (E : XK) : Cx :=
  (cxOf C8.CX0 P79 w K mg base nRight "_law_right" (C8.fnScope sRight) f (.ref cc) A outer s H E).nox
section
variable {X : Cx} {k : Nat} {x : Str} {sp : Sp} {p pos : Pos}
theorem pe_c0 {dvs : List V} (c : C8.Cal X.prog X.w X.K X.mg X.base k x sp dvs) (hr : Room k X.A) (hg : Gl X x) (hdb : (x == ("__debug__" : Str)) = false := by decide) : PE X (.Call (.Name x p) [] [] pos) (tCall sp dvs C8.E0 tNil) := by
  obtain ⟨f, fd, ps, ds, F, hm, kp, b, d⟩ := c.ex
  exact pe_call0 F hr hg hm kp b d pass0 hdb
end
/-- the menu of what is no claim, made -/
def spBads (C : Tx) : Sp := fun vs H Q _ => vs = [] ∧ ∀ ι H' b us, To C [] H ι hb79_ H' → b ∈ ι → H' b = some (.lst us) → (∀ v ∈ us, Bad C ι H' v) → us ≠ [] → us.length < 1073741824 → Q (.ref b) H'
theorem RepL.mem {K : PySem.W.Frag} {H : Hp} {ι : List Addr} : ∀ {ts : List T} {vs : List V}, RepL K H ι ts vs → ∀ v ∈ vs, ∃ t ∈ ts, Rep K H ι t v
  | [], _, r, v, hv => by cases r; cases hv
  | t :: ts, _, r, v, hv => by
    cases r with
    | cons r1 r2 =>
      rcases List.mem_cons.mp hv with rfl | hv
      · exact ⟨t, List.mem_cons_self, r1⟩
      · obtain ⟨t', h1, h2⟩ := r2.mem v hv
        exact ⟨t', List.mem_cons_of_mem _ h1, h2⟩
theorem bads_in {C : Tx} : ∀ vs H Q E, spBads C vs H Q E → spR C L79.G (fi79 168) 60 vs H Q E := by
  intro vs H Q E ⟨e, q⟩
  subst e
  refine ⟨3000, [], [], [], .ref 30, hb79_, sr_nil, .nil, rfl, run_bad, fun ι H' v to r => ?_⟩
  cases r with
  | ref hi =>
    rename_i a
    obtain ⟨us, hu, ru⟩ := to.sr.ok 30 a (.lst hb79_30) hi rfl
    have hl : us.length = 50 := ru.length
    exact q ι H' a us to (List.mem_of_getElem? hi) hu (fun v hv => ⟨to.sr, ru.mem v hv⟩) (fun z => by rw [z] at hl; cases hl) (by omega)
structure Keep79 (T : List (Addr × Str)) (p : Addr) (H : Hp) : Prop where
  d : Dc H p
  t : LamX.Tabs T H
theorem Keep79.ext {T : List (Addr × Str)} {p : Addr} {H H' : Hp} (k : Keep79 T p H) (e : ∀ b o, H b = some o → H' b = some o) : Keep79 T p H' :=
  ⟨let ⟨a, b, c, h⟩ := k.d; ⟨a, b, c, e _ _ h⟩, k.t.ext e⟩
theorem Keep79.to {C : Tx} {ι ι' : List Addr} {h h' : Hi} {T : List (Addr × Str)} {p : Addr} {H H' : Hp} (k : Keep79 T p H) (s : SR C ι h H) (hp : h.all plainMO = true) (np : p ∉ ι) (to : To C ι H ι' h' H') : Keep79 T p H' :=
  ⟨let ⟨a, b, c, h⟩ := k.d; ⟨a, b, c, to.keep _ _ h np⟩, Tabs.to k.t s hp to⟩
theorem Keep79.roll {T : List (Addr × Str)} {p : Addr} {H : Hp} (k : Keep79 T p H) (a b c : Int) : Keep79 T p (upd H p (.lst [.int a, .int b, .int c])) :=
  ⟨⟨a, b, c, upd_same⟩, let ⟨_, _, _, h⟩ := k.d; Tabs.but k.t h fun _ _ e n => by rw [upd_ne n]; exact e⟩
theorem plain79 : hb79_.all plainMO = true := by decide +kernel
/-- a refused value beside the dice -/
structure Bd (C : Tx) (p : Addr) (ι : List Addr) (H : Hp) (v : V) : Prop where
  b : Bad C ι H v
  n : p ∉ ι
theorem Bd.mono {C : Tx} {p : Addr} {ι : List Addr} {H H' : Hp} {v : V} (b : Bd C p ι H v) (k : Dc H p) (e : ∀ b o, H b = some o → (∀ ps, o ≠ .tbl ps) → b ≠ p → H' b = some o) : Bd C p ι H' v := by
  obtain ⟨x, y, z, h⟩ := k
  obtain ⟨s, r⟩ := b.b.sr.mono h b.n (fun a ha ps z => by
    rcases b.b.sr.plain plain79 ha with ⟨xs, e2⟩ | ⟨xs, e2⟩ <;> rw [e2] at z <;> cases z) e
  exact ⟨⟨s, let ⟨t, h1, h2⟩ := b.b.rep; ⟨t, h1, r _ _ h2⟩⟩, b.n⟩
theorem Bd.to {C : Tx} {p : Addr} {ι : List Addr} {H H' : Hp} {v : V} (b : Bd C p ι H v) (to : To C ι H ι hb79_ H') : Bd C p ι H' v := ⟨b.b.to to, b.n⟩
/-- a list beside it changed -/
theorem Bd.app {C : Tx} {p q : Addr} {ι : List Addr} {H H' : Hp} {v : V} {ys : List V} (b : Bd C p ι H v) (hq : H q = some (.lst ys)) (nq : q ∉ ι) (e : ∀ b o, H b = some o → b ≠ q → H' b = some o) : Bd C p ι H' v := by
  obtain ⟨s, r⟩ := b.b.sr.mono hq nq (fun a ha ps z => by
    rcases b.b.sr.plain plain79 ha with ⟨xs, e2⟩ | ⟨xs, e2⟩ <;> rw [e2] at z <;> cases z) fun b o h _ n => e b o h n
  exact ⟨⟨s, let ⟨t, h1, h2⟩ := b.b.rep; ⟨t, h1, r _ _ h2⟩⟩, b.n⟩
theorem Bd.ext {C : Tx} {p : Addr} {ι : List Addr} {H H' : Hp} {v : V} (b : Bd C p ι H v) (k : Dc H p) (e : ∀ b o, H b = some o → H' b = some o) : Bd C p ι H' v := b.mono k fun _ _ h _ _ => e _ _ h
theorem Bd.new {C : Tx} {p q : Addr} {ι : List Addr} {H : Hp} {v : V} (b : Bd C p ι H v) (hq : H q = none) : q ∉ ι := fun z => by
  obtain ⟨o, e⟩ := b.b.sr.there z
  rw [hq] at e
  cases e
theorem new_ext {H : Hp} {q : Addr} {o' : HO} (hq : H q = none) : ∀ b o, H b = some o → upd H q o' b = some o := fun b o e => by
  rw [upd_ne (ne_of_none e hq)]
  exact e
section
variable {w : World} {K : PySem.W.Frag} {mg : Str → Option Value} {g : Addr → Option Obj} {h base : Heap} {f cc PP : Addr} {A : Around} {outer : List Env} {s : Shared} {H0 : Hp} {E : XK}
theorem bad_body (t : T79 K g h) (G : h.Ns mainGlobals mg) (TB : LamX.TabB base mg cc PP) (hr : Room 65 (XR w K mg base f cc A outer s H0 E).A) (p : Addr) :
    ∃ tb, PSs (XR w K mg base f cc A outer s H0 E) (forB (C8.fnBody sRight)) tb ∧ ∀ (D : Ends) (a1 a2 a3 a4 a5 a6 a7 : Option V) (H : Hp), Keep79 [(PP, (XR w K mg base f cc A outer s H0 E).env.qual ++ "<lambda>")] p H →
      (∀ (b2 b7 : Option V) (H' : Hp), Keep79 [(PP, (XR w K mg base f cc A outer s H0 E).env.qual ++ "<lambda>")] p H' → D.nx [some (.ref p), a1, b2, a3, a4, a5, a6, b7] H') → tb D [some (.ref p), a1, a2, a3, a4, a5, a6, a7] H := by
  have VI := inv79 t G
  obtain ⟨fR, fdR, mR, FR⟩ := def79 t G (k := 163) (x := "_law_roll") (q := "_law_roll") (st := sRoll) (by kernel_rfl)
  have cR : C8.Cal P79 w K mg base 61 "_law_roll" spRoll [] := ⟨fR, fdR, _, [], ok_roll FR (t.mg_none G (by kernel_rfl)), mR, FR.kp, bind_st FR (by decide +kernel), .nil⟩
  obtain ⟨fP, fdP, mP, FP⟩ := def79 t G (k := 164) (x := "_law_pick") (q := "_law_pick") (st := sPick) (by kernel_rfl)
  have cP : C8.Cal P79 w K mg base 62 "_law_pick" (spPick K) [] := ⟨fP, fdP, _, [], ok_pick FP (t.mg_none G (by kernel_rfl)) cR, mP, FP.kp, bind_st FP (by decide +kernel), .nil⟩
  have cB : C8.Cal P79 w K mg base 61 "_law_bad" (spBads (C79 w K mg)) [] := C8.Cal.imp (cal79 t G (q := "_law_bad") (st := topAt 227) (by kernel_rfl)) bads_in
  have cI := no_is (w := w) (base := base) t G
  have cT := no_takes (w := w) (base := base) t G
  obtain ⟨fO, fdO, mO, kO, bO, O⟩ := ref_opp (w := w) (base := base) t G
  obtain ⟨fS, fdS, mS, kS, bS, S⟩ := ref_set (w := w) (base := base) t G
  obtain ⟨fM, fdM, mM, FM⟩ := def79 t G (k := 166) (x := "_law_met") (q := "_law_met") (st := sMet) (by kernel_rfl)
  have bM : Binds K fdM ["call"] [] := bind_st FM (by decide +kernel)
  obtain ⟨oc, od, dV, kV, doc, pm, an, cdv, ct, osl, rfl, lkM, hcM, _, _⟩ := FM.ex
  have kM := FM.kp
  have hc : ∀ y : Str, (C8.fnScope sRight).names.lookup y = some NameKind.globalImplicit → Gl (XR w K mg base f cc A outer s H0 E) y := fun _ h => h
  have g1 := hc "_law_pick" (by decide +kernel)
  have g2 := hc "_law_bad" (by decide +kernel)
  have g3 := hc "_law_met" (by decide +kernel)
  have g4 := hc "is_claim" (by decide +kernel)
  have g5 := hc "takes" (by decide +kernel)
  have v0 : Vis (C8.fnScope sRight) "dice" := .inl (by decide +kernel)
  have v2 : Vis (C8.fnScope sRight) "told" := .inl (by decide +kernel)
  have v7 : Vis (C8.fnScope sRight) "value" := .inr (.inl (by decide +kernel))
  have l2 : Loc (C8.fnScope sRight) "told" := .inl (by decide +kernel)
  have l7 : Loc (C8.fnScope sRight) "value" := .inr (by decide +kernel)
  have vM : Vis (C8.fnScope sMet) "call" := .inl (by decide +kernel)
  have hu : (XR w K mg base f cc A outer s H0 E).A.units + 64 < cLine := by have := hr.un; omega
  refine ⟨_, pss_cons (ps_set (i := 7) scRight.nd rfl l7 (C8.pe_c cP hr (by decide) g1 (pa_cons (pe_var (i := 0) rfl v0) (pa_cons (pe_c0 cB (hr.mono (by decide)) g2) pa_nil))))
    (pss_cons (ps_set (i := 2) scRight.nd rfl l2 (pe_lst (pa_cons (LamX.pe_lamcall (k := 63) (TT := TTm K (He.ga K "InvalidClaim") "claim" "fine") g3 mM kM lkM hcM bM scMet rfl vM (met_gives (by decide +kernel) VI.g rfl (fun _ => rfl)) TB rfl (List.mem_singleton.mpr rfl) (fun q hq _ => by rw [List.mem_singleton.mp hq]) hr (show LamX.LamS (C8.fnScope sRight) _ from LamX.lamS_by (by decide +kernel)) rfl (fun _ _ _ _ _ => rfl)
        (fun A outer s H E f' c' hr' => pe_call O hr' rfl mO kO bO .nil (passes_call (takes_of rfl rfl rfl rfl) (fun _ _ _ _ h => h)) (pa_cons (pe_var (i := 7) rfl (.inr (.inr rfl))) pa_nil))) pa_nil)))
    (pss_cons (ps_expr (pe_bm PySem.F.plainAttrs_list PySem.F.slot_list_append PySem.F.type_list_append mt_append (pe_var (i := 2) rfl v2) (pa_cons (LamX.pe_lamcall (k := 63) (TT := TTm K (He.ga K "InvalidClaim") "claim" "fine") g3 mM kM lkM hcM bM scMet rfl vM (met_gives (by decide +kernel) VI.g rfl (fun _ => rfl)) TB rfl (List.mem_singleton.mpr rfl) (fun q hq _ => by rw [List.mem_singleton.mp hq]) hr (show LamX.LamS (C8.fnScope sRight) _ from LamX.lamS_by (by decide +kernel)) rfl (fun _ _ _ _ _ => rfl)
        (fun A outer s H E f' c' hr' => pe_call S hr' rfl mS kS bS .nil (passes_call (takes_of rfl rfl rfl rfl) (fun _ _ _ _ h => h)) (pa_cons (pe_var (i := 7) rfl (.inr (.inr rfl))) pa_nil))) pa_nil)))
    (pss_cons (ps_if (pw_or (pt_cmpR (op_neD hu) (pe_var (i := 2) rfl v2) (pe_lst (pa_cons pe_str (pa_cons pe_str pa_nil))) (nomark _)) (pw_or1 (pt_cmpR op_isnot_bl (C8.pe_c cI hr (by decide) g4 (pa_cons (pe_var (i := 7) rfl v7) pa_nil)) pe_bl (nomark _)))).pt (pss_one (ps_ret pe_bl)) pss_nil)
    (pss_one (ps_if (pt_cmpR op_isnot_bl (C8.pe_c cT hr (by decide) g5 (pa_cons (pe_var (i := 7) rfl v7) (pa_cons (C8.pe_c cP hr (by decide) g1 (pa_cons (pe_var (i := 0) rfl v0) (pa_cons (pe_lst (pa_cons pe_non (pa_cons (pe_tup pa_nil) (pa_cons pe_int (pa_cons (pe_tup (pa_cons (pe_tup pa_nil) pa_nil)) (pa_cons (pe_tup (pa_cons pe_int (pa_cons pe_int pa_nil))) pa_nil)))))) pa_nil))) pa_nil))) pe_bl (nomark _)) (pss_one (ps_ret pe_bl)) pss_nil))))), ?_⟩
  intro D a1 a2 a3 a4 a5 a6 a7 H kp hD
  have z1 : ∀ v : V, [v].length ≤ sizeLine := fun v => by rw [sizeLine_eq]; exact (by decide : 1 ≤ 16777216)
  -- value
  refine ⟨.ref p, rfl, rfl, fun ι H1 b us to hbi hb hv hne hl => ?_⟩
  have kp1 := kp.ext fun b o e => to.keep b o e (by simp)
  have np : p ∉ ι := fun z => by
    obtain ⟨_, _, _, e⟩ := kp.d
    rw [to.more p z] at e
    cases e
  refine ⟨p, b, us, rfl, kp1.d, fun z => np (z ▸ hbi), .inl (.inl hb), hne, hl, fun i v x y z hi => ?_⟩
  have kp2 := kp1.roll x y z
  have bd1 : Bd (C79 w K mg) p ι H1 v := ⟨hv v (List.mem_of_getElem? hi), np⟩
  have bd2 := bd1.mono (H' := upd H1 p (.lst [.int x, .int y, .int z])) kp1.d fun b o e _ n => by rw [upd_ne n]; exact e
  generalize upd H1 p (.lst [.int x, .int y, .int z]) = H2 at kp2 bd2
  -- told
  refine ⟨kp2.t, fun H3 eN T3 => ⟨v, rfl, v, ι, rfl, (bd2.mono kp2.d fun b o e n _ => eN b o e n).b, fun H4 to4 => ⟨VI.o, ?_⟩⟩⟩
  have kp3 : Keep79 [(PP, (XR w K mg base f cc A outer s H0 E).env.qual ++ "<lambda>")] p H3 := ⟨let ⟨a, b, c, e⟩ := kp2.d; ⟨a, b, c, eN _ _ e fun _ z => nomatch z⟩, T3⟩
  have bd3 : Bd (C79 w K mg) p ι H3 v := bd2.mono kp2.d fun b o e n _ => eN b o e n
  have kp4 := kp3.to bd3.b.sr plain79 bd3.n to4
  have bd4 := bd3.to to4
  refine ⟨z1 _, fun q hq => ?_⟩
  have nq := bd4.new hq
  have kp5 := kp4.ext (new_ext (o' := .lst [.str "claim"]) hq)
  have bd5 := bd4.ext kp4.d (new_ext (o' := .lst [.str "claim"]) hq)
  have eq5 : upd H4 q (.lst [.str "claim"]) q = some (.lst [.str "claim"]) := upd_same
  generalize upd H4 q (.lst [.str "claim"]) = H5 at kp5 bd5 eq5
  have npq : p ≠ q := fun z => by
    obtain ⟨_, _, _, e⟩ := kp4.d
    rw [z, hq] at e
    cases e
  -- told.append
  refine ⟨.ref q, rfl, .inl ⟨rfl, _, .inl (.inl eq5)⟩, kp5.t, fun H6 eN6 T6 => ⟨v, rfl, v, ι, rfl, (bd5.mono kp5.d fun b o e n _ => eN6 b o e n).b, fun H7 to7 => ⟨VI.o, ?_⟩⟩⟩
  have kp6 : Keep79 [(PP, (XR w K mg base f cc A outer s H0 E).env.qual ++ "<lambda>")] p H6 := ⟨let ⟨a, b, c, e⟩ := kp5.d; ⟨a, b, c, eN6 _ _ e fun _ z => nomatch z⟩, T6⟩
  have bd6 : Bd (C79 w K mg) p ι H6 v := bd5.mono kp5.d fun b o e n _ => eN6 b o e n
  have kp7 := kp6.to bd6.b.sr plain79 bd6.n to7
  have bd7 := bd6.to to7
  have eq7 : H7 q = some (.lst [.str "claim"]) := to7.keep _ _ (eN6 _ _ eq5 fun _ z => nomatch z) nq
  refine ⟨q, [.str "claim"], .str "claim", rfl, rfl, eq7, by rw [sizeLine_eq]; exact (by decide : 1 < 16777216), ?_⟩
  have kp8 : Keep79 [(PP, (XR w K mg base f cc A outer s H0 E).env.qual ++ "<lambda>")] p (upd H7 q (.lst ([.str "claim"] ++ [.str "claim"]))) := ⟨let ⟨a, b, c, e⟩ := kp7.d; ⟨a, b, c, by rw [upd_ne npq]; exact e⟩, Tabs.but kp7.t eq7 fun b o e n => by rw [upd_ne n]; exact e⟩
  have bd8 : Bd (C79 w K mg) p ι (upd H7 q (.lst ([.str "claim"] ++ [.str "claim"]))) v := bd7.app eq7 nq fun b o e n => by rw [upd_ne n]; exact e
  have eq8 : upd H7 q (.lst ([.str "claim"] ++ [.str "claim"])) q = some (.lst [.str "claim", .str "claim"]) := upd_same
  generalize upd H7 q (.lst ([.str "claim"] ++ [.str "claim"])) = H8 at kp8 bd8 eq8
  -- the first test
  refine ⟨.ref q, rfl, (by rw [sizeLine_eq]; exact (by decide : 2 ≤ 16777216)), fun q2 hq2 => ?_⟩
  have kp9 := kp8.ext (new_ext (o' := .lst [.str "claim", .str "claim"]) hq2)
  have bd9 := bd8.ext kp8.d (new_ext (o' := .lst [.str "claim", .str "claim"]) hq2)
  have eq9 := new_ext (o' := .lst [.str "claim", .str "claim"]) hq2 _ _ eq8
  have er9 : upd H8 q2 (.lst [.str "claim", .str "claim"]) q2 = some (.lst [.str "claim", .str "claim"]) := upd_same
  generalize upd H8 q2 (.lst [.str "claim", .str "claim"]) = H9 at kp9 bd9 eq9 er9
  refine ⟨.list [.str "claim", .str "claim"], .list [.str "claim", .str "claim"], .lst (.inl (.inl eq9)) (.cons (.str _) (.cons (.str _) .nil)), .lst (.inl (.inl er9)) (.cons (.str _) (.cons (.str _) .nil)), by decide +kernel, by decide +kernel, false, ?_, ?_⟩
  · rw [show PyData.eqv (.list [.str "claim", .str "claim"]) (.list [.str "claim", .str "claim"]) = true from by decide +kernel]
    rfl
  refine ⟨v, rfl, v, [], ι, rfl, rfl, bd9.b, fun H10 to10 => ⟨false, false, rfl, rfl, false, rfl, ?_⟩⟩
  have kp10 := kp9.to bd9.b.sr plain79 bd9.n to10
  have bd10 := bd9.to to10
  -- the second test
  have z0 : ([] : List L2.V).length ≤ sizeLine := by rw [sizeLine_eq]; exact (by decide : 0 ≤ 16777216)
  refine ⟨v, rfl, .ref p, rfl, z0, fun t1 ht1 => ⟨z0, fun t2 ht2 => ⟨z1 _, fun t3 ht3 => ⟨(by rw [sizeLine_eq]; exact (by decide : 2 ≤ 16777216)), fun t4 ht4 => ⟨(by rw [sizeLine_eq]; exact (by decide : 5 ≤ 16777216)), fun q3 hq3 => ?_⟩⟩⟩⟩⟩
  have ex : ∀ b o, H10 b = some o → upd (upd (upd (upd (upd H10 t1 (.tup [])) t2 (.tup [])) t3 (.tup [.ref t2])) t4 (.tup [.int 0, .int 1])) q3 (.lst [.non, .ref t1, .int 0, .ref t3, .ref t4]) b = some o := fun b o e => new_ext hq3 _ _ (new_ext ht4 _ _ (new_ext ht3 _ _ (new_ext ht2 _ _ (new_ext ht1 _ _ e))))
  have n3 : H10 q3 = none := by
    cases e : H10 q3 with
    | none => rfl
    | some o =>
      have := new_ext (o' := .tup [.int 0, .int 1]) ht4 _ _ (new_ext (o' := .tup [.ref t2]) ht3 _ _ (new_ext (o' := .tup []) ht2 _ _ (new_ext (o' := .tup []) ht1 _ _ e)))
      rw [hq3] at this
      cases this
  have kp11 := kp10.ext ex
  have bd11 := bd10.ext kp10.d ex
  have eq11 : upd (upd (upd (upd (upd H10 t1 (.tup [])) t2 (.tup [])) t3 (.tup [.ref t2])) t4 (.tup [.int 0, .int 1])) q3 (.lst [.non, .ref t1, .int 0, .ref t3, .ref t4]) q3 = some (.lst [.non, .ref t1, .int 0, .ref t3, .ref t4]) := upd_same
  have n4 : q3 ≠ p := fun z => by
    obtain ⟨_, _, _, e⟩ := kp10.d
    rw [← z, n3] at e
    cases e
  refine ⟨p, q3, _, rfl, kp11.d, n4, .inl (.inl eq11), (fun z => by cases z), (by show 5 < 1073741824; decide), fun i w' x y z hi => ?_⟩
  generalize upd (upd (upd (upd (upd H10 t1 (.tup [])) t2 (.tup [])) t3 (.tup [.ref t2])) t4 (.tup [.int 0, .int 1])) q3 (.lst [.non, .ref t1, .int 0, .ref t3, .ref t4]) = H11 at kp11 bd11 eq11
  have kp12 := kp11.roll x y z
  have bd12 := bd11.mono (H' := upd H11 p (.lst [.int x, .int y, .int z])) kp11.d fun b o e _ n => by rw [upd_ne n]; exact e
  refine ⟨v, [w'], ι, rfl, rfl, bd12.b, fun H13 to13 => ⟨false, false, rfl, rfl, false, rfl, ?_⟩⟩
  exact hD _ _ _ (kp12.to bd12.b.sr plain79 bd12.n to13)
end
end Gn

/-! _law_right: a claim. -/
namespace Gn
open PySem PySem.Spec PyProof.Rows L2
/-- repr of data -/
theorem call_repr_data {X : Cx} (hg : X.A.guards = some []) (hu : X.A.units + 64 < cLine) : CallR X (.builtin "repr") (fun xs H Q => ∃ a d, xs = [.ref a] ∧ Dp X.K H (.ref a) d ∧ d.showable = true ∧ d.hasDict = false ∧ d.depth ≤ 60 ∧ d.shown.length ≤ sizeLine ∧ Q (.str d.shown) H) := by
  intro pins s σ H xs us Q I r h
  obtain ⟨a, d, rfl, hd, h1, h2, h3, h4, q⟩ := h
  obtain ⟨u, rfl, ru⟩ := vals1 r
  obtain ⟨as, rd⟩ := Dp.reads I d _ u hd ru
  cases ru
  exact repr_of_reads' rd h1 (PyData.noDict_hsm h2) hg (by omega) (fun _ _ e => e) (fun h' t tk hk => ⟨.str d.shown, H, I.kept hk, ⟨_, rfl⟩, q⟩) h4
def c79R : SC := (L79.ent (none, "_law_right", "_law_right", sRight)).c
theorem n79R : nRight = c79R.N := by decide +kernel
def right : List Stmt := C8.fnBody sRight
def stR (k : Nat) : Stmt := right.getD k (.Pass ⟨0, 0, 0, 0⟩)
def sR (k : Nat) (σ : Sg) (h : Hi) : Option (Fl × Sg × Hi) := (run L79.G 3000).s 60 (cS 40 c79R (stR k)) σ h
def nxB (r : Option (Fl × Sg × Hi)) (k : Sg → Hi → Bool) : Bool := match r with
  | some (.nx, σ, h) => k σ h
  | _ => false
def finS : List IS := (right.drop 7).map (cS 40 c79R)
/-- the tests of an if -/
def orOf : Stmt → List Expr
  | .If (.BoolOp _ es _) _ _ _ => es
  | _ => []
def tst (k : Nat) : Expr := (orOf (right.getD 6 (.Pass ⟨0, 0, 0, 0⟩))).getD k (.Constant .none 0 ⟨0, 0, 0, 0⟩)
def sg79 (t o : T) (x : Str) : Sg := [none, none, none, some t, some o, some (.str x), none, none]
def showB (d : PyData) : Bool := d.showable && (!d.hasDict && (Nat.ble d.depth 60 && Nat.ble d.shown.length 16777216))
def isRt : Option (Fl × Sg × Hi) → Bool
  | some (.rt (.bl true), _, _) => true
  | _ => false
def sltB (σ : Sg) (i : Nat) (t : T) : Bool := match σ[i]? with
  | some (some u) => T.beq u t
  | _ => false
def testB (r : Option (Bool × Hi)) (k : Hi → Bool) : Bool := match r with
  | some (false, h) => k h
  | _ => false
/-- a claim of the menu, looked at -/
def gdB (t : T) : Bool := match rn79 159 [t] [] with
  | some (o, _) => (match T.toS [] t with
    | some d => (match t with | .tup _ => true | _ => false) && (t.flat && (o.flat && (showB d && nxB (sR 3 (sg79 t o d.shown) []) fun σa ha => nxB (sR 4 σa ha) fun σb hb => nxB (sR 5 σb hb) fun σ h =>
        sltB σ 3 t && (sltB σ 5 (.str d.shown) && testB ((run L79.G 3000).t 60 (cT 40 c79R (tst 0)) σ h) fun h2 => testB ((run L79.G 3000).t 60 (cT 40 c79R (tst 1)) σ h2) fun h3 => isRt ((run L79.G 3000).ss 60 finS σ h3)))))
    | none => false)
  | none => false
theorem gd_0 : (match hg79_8[0]? with | some t => gdB t | none => true) = true := by decide +kernel
theorem gd_1 : (match hg79_8[1]? with | some t => gdB t | none => true) = true := by decide +kernel
theorem gd_2 : (match hg79_8[2]? with | some t => gdB t | none => true) = true := by decide +kernel
theorem gd_3 : (match hg79_8[3]? with | some t => gdB t | none => true) = true := by decide +kernel
theorem gd_4 : (match hg79_8[4]? with | some t => gdB t | none => true) = true := by decide +kernel
theorem gd_5 : (match hg79_8[5]? with | some t => gdB t | none => true) = true := by decide +kernel
theorem gd_6 : (match hg79_8[6]? with | some t => gdB t | none => true) = true := by decide +kernel
theorem gd_7 : (match hg79_8[7]? with | some t => gdB t | none => true) = true := by decide +kernel
theorem gd_8 : (match hg79_8[8]? with | some t => gdB t | none => true) = true := by decide +kernel
theorem gd_9 : (match hg79_8[9]? with | some t => gdB t | none => true) = true := by decide +kernel
theorem gd_10 : (match hg79_8[10]? with | some t => gdB t | none => true) = true := by decide +kernel
theorem gd_all : ∀ t ∈ hg79_8, gdB t = true := fun t ht => by
  obtain ⟨i, hi, e⟩ := List.getElem_of_mem ht
  have e' : hg79_8[i]? = some t := by rw [List.getElem?_eq_getElem hi, e]
  have key : ∀ k, k < 11 → (match hg79_8[k]? with | some t => gdB t | none => true) = true := fun k hk => by
    match k, hk with
    | 0, _ => exact gd_0
    | 1, _ => exact gd_1
    | 2, _ => exact gd_2
    | 3, _ => exact gd_3
    | 4, _ => exact gd_4
    | 5, _ => exact gd_5
    | 6, _ => exact gd_6
    | 7, _ => exact gd_7
    | 8, _ => exact gd_8
    | 9, _ => exact gd_9
    | 10, _ => exact gd_10
    | n + 11, h => omega
  have := key i (by have h11 : hg79_8.length = 11 := by decide +kernel
                    omega)
  rw [e'] at this
  exact this
end Gn

/-! _law_right: a claim, walked. -/
namespace Gn
open PySem PySem.Spec PyProof.Rows L2
theorem sltB_ok {σ : Sg} {i : Nat} {t : T} (h : sltB σ i t = true) : σ[i]? = some (some t) := by
  unfold sltB at h
  split at h
  · rename_i u e
    rw [e, T.beq_eq h]
  · cases h
theorem testB_ok {r : Option (Bool × Hi)} {k : Hi → Bool} (h : testB r k = true) : ∃ h', r = some (false, h') ∧ k h' = true := by
  unfold testB at h
  split at h
  · exact ⟨_, rfl, h⟩
  · cases h
theorem isRt_ok {r : Option (Fl × Sg × Hi)} (h : isRt r = true) : ∃ σ h', r = some (.rt (.bl true), σ, h') := by
  unfold isRt at h
  split at h
  · exact ⟨_, _, rfl⟩
  · cases h
theorem nxB_ok {r : Option (Fl × Sg × Hi)} {k : Sg → Hi → Bool} (h : nxB r k = true) : ∃ σ h', r = some (.nx, σ, h') ∧ k σ h' = true := by
  unfold nxB at h
  split at h
  · exact ⟨_, _, rfl, h⟩
  · cases h
structure Gd (t : T) : Prop where
  tup : ∃ ts, t = .tup ts
  flat : t.flat = true
  ex : ∃ o h1 d σa ha σb hb σ h h2 h3 σ4 h4, rn79 159 [t] [] = some (o, h1) ∧ T.toS [] t = some d ∧ o.flat = true ∧ showB d = true ∧ sR 3 (sg79 t o d.shown) [] = some (.nx, σa, ha) ∧ sR 4 σa ha = some (.nx, σb, hb) ∧ sR 5 σb hb = some (.nx, σ, h) ∧
    σ[3]? = some (some t) ∧ σ[5]? = some (some (.str d.shown)) ∧
    (run L79.G 3000).t 60 (cT 40 c79R (tst 0)) σ h = some (false, h2) ∧ (run L79.G 3000).t 60 (cT 40 c79R (tst 1)) σ h2 = some (false, h3) ∧ (run L79.G 3000).ss 60 finS σ h3 = some (.rt (.bl true), σ4, h4)
theorem gd_ok {t : T} (h : gdB t = true) : Gd t := by
  unfold gdB at h
  split at h
  · rename_i o h1 e1
    split at h
    · rename_i d e2
      obtain ⟨a1, h⟩ := He.ba h
      obtain ⟨a2, h⟩ := He.ba h
      obtain ⟨a3, h⟩ := He.ba h
      obtain ⟨a4, h⟩ := He.ba h
      obtain ⟨σa, ha, c1, h⟩ := nxB_ok h
      obtain ⟨σb, hb, c2, h⟩ := nxB_ok h
      obtain ⟨σ, h5, c3, h⟩ := nxB_ok h
      obtain ⟨b1, h⟩ := He.ba h
      obtain ⟨b2, h⟩ := He.ba h
      obtain ⟨h2, e4, h⟩ := testB_ok h
      obtain ⟨h3, e5, h⟩ := testB_ok h
      obtain ⟨σ4, h4, e6⟩ := isRt_ok h
      refine ⟨?_, a2, o, h1, d, σa, ha, σb, hb, σ, h5, h2, h3, σ4, h4, e1, e2, a3, a4, c1, c2, c3, sltB_ok b1, sltB_ok b2, e4, e5, e6⟩
      split at a1
      · exact ⟨_, rfl⟩
      · cases a1
    · cases h
  · cases h
section
variable {w : World} {K : PySem.W.Frag} {mg : Str → Option Value} {g : Addr → Option Obj} {h base : Heap} {f cc PP : Addr} {A : Around} {outer : List Env} {s : Shared} {H0 : Hp} {E : XK}
theorem xok79 (t : T79 K g h) (G : h.Ns mainGlobals mg) (hr : Room 60 (XR w K mg base f cc A outer s H0 E).A) : XOk L79.G c79R 60 (XR w K mg base f cc A outer s H0 E) := by
  have tk := tab79 (w := w) t G
  have he : L79.tb[169]? = some (L79.ent (none, "_law_right", "_law_right", sRight)) := ent79 (by kernel_rfl)
  have hm := List.mem_of_getElem? he
  have fn_of_k : ∀ (k' : Nat) (e' : Ent), L79.tb[k']? = some e' → L79.G.fns[k']? = some e'.fi := fun k' e' h1 => by rw [tk.fns, List.getElem?_map, h1]; rfl
  refine ⟨n79R, scRight.nd, rfl, rfl, hr, fun _ _ => .inl rfl, rfl, tk.bmg, fun y b hy => ?_, fun f q hf => tk.fl _ hm f q hf, fun m q hq => ?_⟩
  · have q := tk.gl _ hm y b hy
    cases b with
    | con k => exact q
    | fn k =>
      obtain ⟨e', h1, h2, h3⟩ := q
      exact ⟨e'.fi, fn_of_k _ _ h1, fun l' hl' => (kept_all tk l' k e' h1).cal h3⟩
    | cls k =>
      obtain ⟨e', A', h1, h2, h3⟩ := q
      exact ⟨A', _, e'.fi, h2, h3, fn_of_k _ _ h1, fun l' hl' => let ⟨_, _, _, _, z⟩ := kept_all tk l' k e' h1; z A'⟩
  · obtain ⟨e', A', h1, h2, h3, h4⟩ := tk.mt _ hm m q hq
    exact ⟨A', _, e'.fi, h2, h3, h4, fn_of_k _ _ h1, fun l' hl' => (kept_all tk l' _ e' h1).fnR⟩
end
/-- the menu of claims, made -/
def spGoods (C : Tx) : Sp := fun vs H Q _ => vs = [] ∧ ∀ H' b us, (∀ b o, H b = some o → H' b = some o) → H b = none → H' b = some (.lst us) → (∀ v ∈ us, ∃ t ∈ hg79_8, Rep C.K H' [] t v) → us ≠ [] → us.length < 1073741824 → Q (.ref b) H'
theorem goods_in {C : Tx} : ∀ vs H Q E, spGoods C vs H Q E → spR C L79.G (fi79 167) 60 vs H Q E := by
  intro vs H Q E ⟨e, q⟩
  subst e
  refine ⟨3000, [], [], [], .ref 8, hg79_, sr_nil, .nil, rfl, run_good, fun ι H' v to r => ?_⟩
  cases r with
  | ref hi =>
    rename_i a
    obtain ⟨us, hu, ru⟩ := to.sr.ok 8 a (.lst hg79_8) hi rfl
    have hl : us.length = 11 := ru.length
    refine q H' a us (fun b o e => to.keep b o e (by simp)) (to.more a (List.mem_of_getElem? hi)) hu (fun v hv => ?_) (fun z => by rw [z] at hl; cases hl) (by omega)
    obtain ⟨t, h1, h2⟩ := ru.mem v hv
    exact ⟨t, h1, h2.flat [] (gd_ok (gd_all t h1)).flat⟩
/-- the claim's opposite, known by the engine's run -/
def spOp (C : Tx) : Sp := fun vs H Q _ => ∃ v t o h1, vs = [v] ∧ Rep C.K H [] t v ∧ rn79 159 [t] [] = some (o, h1) ∧ o.flat = true ∧ ∀ H' v', (∀ b o, H b = some o → H' b = some o) → Rep C.K H' [] o v' → Q v' H'
theorem op_in {C : Tx} : ∀ vs H Q E, spOp C vs H Q E → spR C L79.G (fi79 159) 60 vs H Q E := by
  intro vs H Q E ⟨v, t, o, h1, e, r, er, fl, q⟩
  subst e
  exact ⟨3000, [], [], [t], o, h1, sr_nil, .cons r .nil, rfl, er, fun ι H' v' to r' => q H' v' (fun b o e => to.keep b o e (by simp)) (r'.flat [] fl)⟩
theorem keepT_ext {K : PySem.W.Frag} {H H' : Hp} (e : ∀ b o, H b = some o → H' b = some o) : KeepT K H H' := ⟨fun b xs q => by
    rcases q with (q | ⟨ob, q⟩) | q
    · exact .inl (.inl (e _ _ q))
    · exact .inl (.inr ⟨ob, e _ _ q⟩)
    · exact .inr q, fun b o u q => e _ _ q⟩
theorem rep_ext {K : PySem.W.Frag} {H H' : Hp} {ι : List Addr} {t : T} {v : V} (r : Rep K H ι t v) (e : ∀ b o, H b = some o → H' b = some o) : Rep K H' ι t v := r.at_ (keepT_ext e) fun _ _ h => h
theorem show_ok {d : PyData} (h : showB d = true) : d.showable = true ∧ d.hasDict = false ∧ d.depth ≤ 60 ∧ d.shown.length ≤ sizeLine := by
  obtain ⟨a, h⟩ := He.ba h
  obtain ⟨b, h⟩ := He.ba h
  obtain ⟨c, h⟩ := He.ba h
  exact ⟨a, by simpa using b, Nat.le_of_ble_eq_true c, by rw [sizeLine_eq]; exact Nat.le_of_ble_eq_true h⟩
section
variable {w : World} {K : PySem.W.Frag} {mg : Str → Option Value} {g : Addr → Option Obj} {h base : Heap} {f cc PP : Addr} {A : Around} {outer : List Env} {s : Shared} {H0 : Hp} {E : XK}
theorem good_part (t : T79 K g h) (G : h.Ns mainGlobals mg) (hgd : A.guards = some []) (hr : Room 65 (XR w K mg base f cc A outer s H0 E).A) (p : Addr) (T : List (Addr × Str)) :
    ∃ tb, PSs (XR w K mg base f cc A outer s H0 E) (right.drop 1) tb ∧ ∀ (D : Ends) (a1 a2 a3 a4 a5 a6 a7 : Option V) (H : Hp), Keep79 T p H →
      (∀ H' : Hp, LamX.Tabs T H' → D.rt (.bl true) H') → tb D [some (.ref p), a1, a2, a3, a4, a5, a6, a7] H := by
  obtain ⟨fR, fdR, mR, FR⟩ := def79 t G (k := 163) (x := "_law_roll") (q := "_law_roll") (st := sRoll) (by kernel_rfl)
  have cR : C8.Cal P79 w K mg base 61 "_law_roll" spRoll [] := ⟨fR, fdR, _, [], ok_roll FR (t.mg_none G (by kernel_rfl)), mR, FR.kp, bind_st FR (by decide +kernel), .nil⟩
  obtain ⟨fP, fdP, mP, FP⟩ := def79 t G (k := 164) (x := "_law_pick") (q := "_law_pick") (st := sPick) (by kernel_rfl)
  have cP : C8.Cal P79 w K mg base 62 "_law_pick" (spPick K) [] := ⟨fP, fdP, _, [], ok_pick FP (t.mg_none G (by kernel_rfl)) cR, mP, FP.kp, bind_st FP (by decide +kernel), .nil⟩
  have cG : C8.Cal P79 w K mg base 61 "_law_good" (spGoods (C79 w K mg)) [] := C8.Cal.imp (cal79 t G (q := "_law_good") (st := topAt 226) (by kernel_rfl)) goods_in
  have cO : C8.Cal P79 w K mg base 61 "opposite" (spOp (C79 w K mg)) [] := C8.Cal.imp (cal79 t G (q := "opposite") (st := topAt 217) (by kernel_rfl)) op_in
  have hc : ∀ y : Str, (C8.fnScope sRight).names.lookup y = some NameKind.globalImplicit → Gl (XR w K mg base f cc A outer s H0 E) y := fun _ h => h
  have g1 := hc "_law_pick" (by decide +kernel)
  have g2 := hc "_law_good" (by decide +kernel)
  have g3 := hc "opposite" (by decide +kernel)
  have g4 := hc "repr" (by decide +kernel)
  have mRp : mg "repr" = none := t.mg_none G (by kernel_rfl)
  have v0 : Vis (C8.fnScope sRight) "dice" := .inl (by decide +kernel)
  have v3 : Vis (C8.fnScope sRight) "claim" := .inl (by decide +kernel)
  have v5 : Vis (C8.fnScope sRight) "kept" := .inl (by decide +kernel)
  have l3 : Loc (C8.fnScope sRight) "claim" := .inl (by decide +kernel)
  have k4 : (C8.fnScope sRight).names.lookup ("other" : Str) = some NameKind.local := by decide +kernel
  have k5 : (C8.fnScope sRight).names.lookup ("kept" : Str) = some NameKind.local := by decide +kernel
  have hu : (XR w K mg base f cc A outer s H0 E).A.units + 64 < cLine := by have := hr.un; omega
  have x := xok79 (w := w) (base := base) (f := f) (cc := cc) (outer := outer) (s := s) (H0 := H0) (E := E) t G (hr.mono (by decide))
  have S := snd_sall L79.G 3000
  have Se := snd_all L79.G 3000
  have hk : c79R.sc.kind = .function := scRight.kind
  refine ⟨_, pss_cons (ps_set (i := 3) scRight.nd rfl l3 (C8.pe_c cP hr (by decide) g1 (pa_cons (pe_var (i := 0) rfl v0) (pa_cons (pe_c0 cG (hr.mono (by decide)) g2) pa_nil))))
    (pss_cons (ps_par (i := 4) (j := 5) rfl scRight.nd rfl rfl (by decide) k4 k5 (pa_cons (C8.pe_c cO hr (by decide) g3 (pa_cons (pe_var (i := 3) rfl v3) pa_nil)) (pa_cons (pe_callB (call_repr_data hgd hu) g4 mRp (by rfl) (pa_cons (pe_var (i := 3) rfl v3) pa_nil)) pa_nil)) (by rfl))
    (pss_cons (S.s 40 c79R 60 _ (stR 3) x hk)
    (pss_cons (S.s 40 c79R 60 _ (stR 4) x hk)
    (pss_cons (S.s 40 c79R 60 _ (stR 5) x hk)
    (pss_cons (ps_if (pw_or (Se.t 40 c79R 60 _ (tst 0) x) (pw_or (Se.t 40 c79R 60 _ (tst 1) x) (pw_or1 (pt_cmpR op_ne (pe_callB (call_repr_data hgd hu) g4 mRp (by rfl) (pa_cons (pe_var (i := 3) rfl v3) pa_nil)) (pe_var (i := 5) rfl v5) (nomark _))))).pt (pss_one (ps_ret pe_bl)) pss_nil)
    (S.ss 40 c79R 60 _ (right.drop 7) x hk)))))), ?_⟩
  intro D a1 a2 a3 a4 a5 a6 a7 H kp hD
  refine ⟨.ref p, rfl, rfl, fun H1 b us ex hbn hb hv hne hl => ?_⟩
  have kp1 := kp.ext ex
  have ne : b ≠ p := fun z => by
    obtain ⟨_, _, _, e⟩ := kp.d
    rw [← z, hbn] at e
    cases e
  refine ⟨p, b, us, rfl, kp1.d, ne, .inl (.inl hb), hne, hl, fun i v x1 y z hi => ?_⟩
  have kp2 := kp1.roll x1 y z
  obtain ⟨t0, ht0, rep1⟩ := hv v (List.mem_of_getElem? hi)
  have rep2 : Rep K (upd H1 p (.lst [.int x1, .int y, .int z])) [] t0 v := by
    obtain ⟨_, _, _, e⟩ := kp1.d
    exact ((sr_nil (C := C79 w K mg) (H := H1)).mono e (by simp) (fun a ha => absurd ha (by simp)) (fun b o e _ n => by rw [upd_ne n]; exact e)).2 t0 v rep1
  generalize upd H1 p (.lst [.int x1, .int y, .int z]) = H2 at kp2 rep2
  obtain ⟨⟨ts, rfl⟩, fl, o, h1, d, σa, ha, σb, hb', σ, h5, h2, h3, σ4, h4, e1, e2, e3, e4, c1, c2, c3, s3, s5, e5, e6, e7⟩ := gd_ok (gd_all t0 ht0)
  obtain ⟨w1, w2, w3, w4⟩ := show_ok e4
  obtain ⟨a, rfl⟩ : ∃ a, v = .ref a := by cases rep2; exact ⟨_, rfl⟩
  refine ⟨.ref a, rfl, .ref a, .tup ts, o, h1, rfl, rep2, e1, e3, fun H3 v' ex3 ro => ?_⟩
  have rep3 := rep_ext rep2 ex3
  refine ⟨.ref a, rfl, a, d, rfl, (toS_ok (C := C79 w K mg) sr_nil e2 rep3).1, w1, w2, w3, w4, _, _, rfl, ?_⟩
  have rs : RepS K H3 [] (sg79 (.tup ts) o d.shown) [some (.ref p), a1, a2, some (.ref a), some v', some (.str d.shown), a6, a7] := ⟨rfl, fun i t e => by
    match i, e with
    | 3, e => cases e; exact ⟨_, rfl, rep3⟩
    | 4, e => cases e; exact ⟨_, rfl, ro⟩
    | 5, e => cases e; exact ⟨_, rfl, .str _⟩
    | 6, e => cases e
    | 7, e => cases e
    | n + 8, e => cases e⟩
  refine ⟨[], sg79 (.tup ts) o d.shown, [], sr_nil, rs, .nx, σa, ha, c1, fun ι1 H4 ρ1 to1 rs1 => ?_⟩
  refine ⟨ι1, σa, ha, to1.sr, rs1, .nx, σb, hb', c2, fun ι2 H5 ρ2 to2 rs2 => ?_⟩
  refine ⟨ι2, σb, hb', to2.sr, rs2, .nx, σ, h5, c3, fun ι3 H6 ρ3 to3 rs3 => ?_⟩
  refine ⟨ι3, σ, h5, to3.sr, rs3, false, h2, e5, fun ι4 H7 to4 => ?_⟩
  have rs4 := to4.repS to3.sr rs3
  refine ⟨ι4, σ, h2, to4.sr, rs4, false, h3, e6, fun ι5 H8 to5 => ?_⟩
  have rs5 := to5.repS to4.sr rs4
  obtain ⟨v3, hv3, r3⟩ := rs5.at_ 3 _ s3
  obtain ⟨v5', hv5, r5⟩ := rs5.at_ 5 _ s5
  cases r5
  obtain ⟨a3', rfl⟩ : ∃ a, v3 = .ref a := by cases r3; exact ⟨_, rfl⟩
  refine ⟨.ref a3', hv3, a3', d, rfl, (toS_ok (C := C79 w K mg) sr_nil e2 (r3.flat [] fl)).1, w1, w2, w3, w4, .str d.shown, hv5, rfl, false, by simp, ?_⟩
  refine ⟨ι5, σ, h3, to5.sr, rs5, .rt (.bl true), σ4, h4, e7, fun ι6 H9 ρ6 to6 _ v rv => ?_⟩
  cases rv
  have all := ((((to1.trans to2).trans to3).trans to4).trans to5).trans to6
  exact hD H9 ((kp2.t.ext ex3).ext fun b o e => all.keep b o e (by simp))
end
end Gn

/-! The law's call from the outermost caller, one maker of lambdas; nothing is being shown there. -/
namespace Gn
open PySem PySem.Spec PyProof.Rows L2
section
variable {P : Program} {w : World} {K : PySem.W.Frag} {mg mb : Str → Option Value} {fa a cc PP : Addr} {oc : Obj} {s₁ : Shared} {vs : List Value} {ns : List Int}
abbrev lsO (vs : List Value) : Obj := { cls := .type "list", data := .seq vs.toArray }
abbrev tbO : Obj := { cls := .none, data := .fields #[] }
/-- what is tracked at the law's entry: the table; the script, unless K tells it -/
structure Entry (K : PySem.W.Frag) (H : Hp) (a PP : Addr) (vs : List Value) (ns : List Int) : Prop where
  tb : H PP = some (.tbl #[])
  all : ∀ b u, H b = some u → (b = PP ∧ u = .tbl #[]) ∨ (b = a ∧ K.lookup a = none ∧ u = .frz (lsO vs) (.lst (ns.map V.int)))
  sq : SqL K H a (ns.map V.int)
  fz : ∀ H' : Hp, (∀ b o u, H b = some (.frz o u) → H' b = some (.frz o u)) → SqL K H' a (ns.map V.int)
theorem entry_at (KX : K.In s₁.heap) (nT : K.lookup PP = none) (hT : s₁.heap.get? PP = some tbO) (ha : s₁.heap.get? a = some (lsO vs)) (rv : Vals (ns.map V.int) vs) (hl : vs.length ≤ sizeLine) : ∃ H, Entry K H a PP vs ns := by
  have na : a ≠ PP := fun z => by
    rw [z, hT] at ha
    have := congrArg Obj.data (Option.some.inj ha)
    cases this
  cases ek : K.lookup a with
  | none =>
    have e1 : (fun b => if b = PP then some (HO.tbl #[]) else if b = a then some (.frz (lsO vs) (.lst (ns.map V.int))) else none : Hp) a = some (.frz (lsO vs) (.lst (ns.map V.int))) := (if_neg na).trans (if_pos rfl)
    refine ⟨fun b => if b = PP then some (.tbl #[]) else if b = a then some (.frz (lsO vs) (.lst (ns.map V.int))) else none, if_pos rfl, fun b u e => ?_, .inl (.inr ⟨_, e1⟩), fun H' k => .inl (.inr ⟨_, k _ _ _ e1⟩)⟩
    by_cases h1 : b = PP
    · exact .inl ⟨h1, (Option.some.inj ((if_pos h1).symm.trans e)).symm⟩
    · have e := (if_neg h1).symm.trans e
      by_cases h2 : b = a
      · exact .inr ⟨h2, ek, (Option.some.inj ((if_pos h2).symm.trans e)).symm⟩
      · cases (if_neg h2).symm.trans e
  | some o =>
    have e := KX a o ek
    rw [ha] at e
    cases e
    have sq : ∀ H' : Hp, SqL K H' a (ns.map V.int) := fun H' => .inr ⟨_, vs.toArray, _, ek, rfl, rfl, rfl, by simpa using hl, by simpa using rv⟩
    refine ⟨fun b => if b = PP then some (.tbl #[]) else none, if_pos rfl, fun b u e => ?_, sq _, fun H' _ => sq H'⟩
    by_cases h1 : b = PP
    · exact .inl ⟨h1, (Option.some.inj ((if_pos h1).symm.trans e)).symm⟩
    · cases (if_neg h1).symm.trans e
theorem law_call1 (KX : K.In s₁.heap) (G : s₁.heap.Ns mainGlobals mg) (B : s₁.heap.Ns builtinsNs mb) (bb : ∀ x : Str, x ≠ "__name__" → mb x = bootBuiltins x) (lim : s₁.heap.NoLimit) (gens : s₁.gens = #[])
    (hT : s₁.heap.get? PP = some tbO) (nT : K.lookup PP = none) (hc : s₁.heap.get? cc = some oc) (hcd : PySem.W.codeHdIn [(cc, oc)] cc PP = true)
    (bm : ∃ (m : Addr) (ob : Obj), mg "__builtins__" = some (.ref m) ∧ m ≠ builtinsNs ∧ s₁.heap.get? m = some ob ∧ ob.cls = .type "module" ∧ ob.dict = some builtinsNs ∧ ob.data = .plain)
    (ha : s₁.heap.get? a = some (lsO vs)) (hi : IntsAre vs ns) (hl : ns.length ≤ sizeLine)
    (run : ∀ (base : Heap) (H : Hp), K.In base → base.Ns mainGlobals mg → LamX.TabB base mg cc PP → Env0 P w K mg base callerA [] s₁ H → H PP = some (.tbl #[]) → Entry K H a PP vs ns →
      codeAny (model P w) callerA (.call (.ref fa) ⟨[.ref a], []⟩) (CR C8.CX0 [] P w H s₁ (fun v _ => v = .bl true) C8.E0) s₁) :
    codeAny (model P w) callerA (.call (.ref fa) ⟨[.ref a], []⟩) (fun r s' => r = .ok (.ret (.bool true)) ∧ OldK s₁.heap s'.heap ∧ s'.os = s₁.os ∧ AllBare s'.gens) s₁ := by
  have rv := vals_ints hi
  have hl' : vs.length ≤ sizeLine := by rw [hi.length]; exact hl
  have hl2 : (ns.map V.int).length ≤ sizeLine := by rw [List.length_map]; exact hl
  obtain ⟨H, en⟩ := entry_at KX nT hT ha rv hl'
  -- what is tracked stands there
  have hok : HOk P w H s₁.heap := fun b u e => by
    rcases en.all b u e with ⟨rfl, rfl⟩ | ⟨rfl, _, rfl⟩
    · exact hT
    · exact ⟨ha, hl2, vs, _, rv, ha⟩
  -- what is no list and no record is not tracked
  have free : ∀ {b : Addr} {o : Obj}, s₁.heap.get? b = some o → (∀ l n, o.data ≠ .seq l n) → o.data ≠ .fields #[] → H b = none := fun {b o} e n1 n2 => by
    cases q : H b with
    | none => rfl
    | some u =>
      exfalso
      rcases en.all b u q with ⟨rfl, _⟩ | ⟨rfl, _, _⟩
      · rw [hT] at e; cases e; exact n2 rfl
      · rw [ha] at e; cases e; exact n1 _ _ rfl
  have at_ : ∀ {b : Addr} {o : Obj}, s₁.heap.get? b = some o → H b = none → (hidT s₁.heap H).get? b = some o := fun e n => hidT_get e n
  have space : ∀ {b : Addr} {m : Str → Option Value}, s₁.heap.Ns b m → (hidT s₁.heap H).Ns b m := fun {b m} ⟨o, es, ep, e, d, r⟩ =>
    ⟨o, es, ep, at_ e (free e (fun l n z => by rw [d] at z; cases z) fun z => by rw [d] at z; cases z), d, r⟩
  have kin : K.In (hidT s₁.heap H) := fun b o e => at_ (KX b o e) (by
    cases q : H b with
    | none => rfl
    | some u =>
      exfalso
      rcases en.all b u q with ⟨rfl, _⟩ | ⟨rfl, z, _⟩
      · rw [nT] at e; cases e
      · rw [z] at e; cases e)
  obtain ⟨mc, lm1, lm2⟩ := lim
  have md : L2.Mod K mg (hidT s₁.heap H) := ⟨kin, space G, ⟨mb, space B, bb⟩, mc, space lm1, lm2⟩
  -- the maker's code object
  have isc : ∃ fs, oc.data = .fields fs ∧ fs ≠ #[] := by
    have e := hcd
    unfold PySem.W.codeHdIn at e
    rw [show (List.lookup cc [(cc, oc)] : Option Obj) = some oc by simp [List.lookup_cons]] at e
    split at e
    · rename_i q
      cases q
      refine ⟨_, rfl, fun z => ?_⟩
      subst z
      simp at e
    · cases e
  obtain ⟨fs, isc1, isc2⟩ := isc
  have code : ∀ {h : Heap}, h.get? cc = some oc → PySem.W.CodeHd h cc PP := fun {h} e => PySem.W.codeHd_of_K (K := [(cc, oc)]) (fun b u z => by
    rw [List.lookup_cons] at z
    cases d : b == cc with
    | true => rw [d] at z; cases z; rw [eq_of_beq d]; exact e
    | false => rw [d] at z; cases z) hcd
  have tab : LamX.TabB (hidT s₁.heap H) mg cc PP := by
    refine ⟨code (at_ hc (free hc (fun l n z => by rw [isc1] at z; cases z) fun z => by rw [isc1] at z; exact isc2 (by cases z; rfl))), ?_, fun z => ?_⟩
    · obtain ⟨m, ob, b1, b2, b3, b4, b5, b6⟩ := bm
      have gone : ∀ {x : Addr} {o : Obj}, s₁.heap.get? x = some o → o.data ≠ .plain → m ≠ x := fun {x o} e n z => by
        rw [z, e] at b3; cases b3; exact n b6
      obtain ⟨o, es, ep, e, d, _⟩ := G
      exact ⟨m, ob, b1, b2, gone e (fun z => by rw [d] at z; cases z), gone hT (fun z => by cases z), at_ b3 (free b3 (fun l n z => by rw [b6] at z; cases z) fun z => by rw [b6] at z; cases z), b4, b5, b6⟩
    · obtain ⟨o, es, ep, e, d, _⟩ := G
      rw [z, hT] at e; cases e; cases d
  have e0 : Env0 P w K mg (hidT s₁.heap H) callerA [] s₁ H := ⟨rfl, md, fun b o e => of_hidT e, Nat.le_of_eq (hidT_size _ _), trivial, (fun b hb => by cases hb), hok, .of_eq gens⟩
  refine codeAny_mono (run _ H kin (space G) tab e0 en.tb en) fun r s' h => ?_
  cases r with
  | error e => exact (show False from h).elim
  | ok fl =>
    cases fl with
    | ret u =>
      obtain ⟨v, H', os, bare, un, hok', r', q⟩ := h
      obtain rfl : v = .bl true := q
      obtain rfl : u = Value.bool true := r'
      obtain ⟨more, q1⟩ := un.tbls PP #[] en.tb
      have tb' : s'.heap.get? PP = some { cls := .none, data := .fields more } := by
        have := hok' PP _ q1
        rwa [Array.empty_append] at this
      have stays : ∀ b o, b ≠ PP → s₁.heap.get? b = some o → s'.heap.get? b = some o := fun b o n e => by
        cases q : H b with
        | none => exact un.keep b o e q (fun z => by cases z) (fun z => by cases z)
        | some u =>
          rcases en.all b u q with ⟨z, _⟩ | ⟨rfl, _, rfl⟩
          · exact absurd z n
          · obtain ⟨z1, _⟩ := hok' b _ (un.frzs b _ _ q)
            rw [ha] at e; cases e
            exact z1
      refine ⟨rfl, ⟨fun b o e => ?_, fun b o e => ?_⟩, os, bare⟩
      · by_cases hb : b = PP
        · subst hb
          rw [hT] at e; cases e
          exact .inr (.inl ⟨((code hc).tab hT).isCodeTable, rfl, #[], more, rfl, by rw [Array.empty_append]; exact tb'⟩)
        · exact .inl (stays b o hb e)
      · by_cases hb : b = PP
        · exact ⟨_, hb ▸ tb'⟩
        · exact ⟨o, stays b o hb e⟩
    | next => exact False.elim h
    | brk => exact False.elim h
    | cont => exact False.elim h
end
end Gn

/-! k79: _law_right, law. -/
namespace Gn
open PySem PySem.Spec PyProof.Rows L2
theorem pe_frz {X : Cx} {e : Expr} {t : TE} (h : PE X e t) : PE X e (fun σ H Q => t σ H fun v H' => (∀ b o u, X.H_0 b = some (.frz o u) → H' b = some (.frz o u)) → Q v H') :=
  ⟨fun pins s σ H Q I q => thn (h.run pins s σ H _ I q) fun u s' ⟨v, H', I', r, k⟩ => ⟨v, H', I', r, k I'.base.frzs⟩⟩
abbrev sLaw : Stmt := topAt 229
def nLaw : List Str := ["script", "spot", "dice"]
theorem scLaw : FnScope nLaw ["script"] (C8.fnScope sLaw) := C8.fnScope_by (by decide +kernel)
/-- _law_right as it stands -/
structure RightD (K : PySem.W.Frag) (mg : Str → Option Value) (h : Heap) (f cc PP : Addr) : Prop where
  g : mg "_law_right" = some (.ref f)
  ex : ∃ (oc : Value) (od : Option Addr) (dV kV doc pm : Value) (an : Option Addr) (ct : Value) (osl : Array (Option Value)),
    K.lookup f = some ⟨oc, od, .func (PySem.W.fnOf "_law_right" "_law_right" (C8.fnArgs sRight) (C8.fnBody sRight) (C8.fnScope sRight) dV kV doc pm an (.ref cc) ct), osl⟩ ∧ PySem.W.codeIn K (.ref cc) "_law_right" = true ∧
    Binds K (PySem.W.fnOf "_law_right" "_law_right" (C8.fnArgs sRight) (C8.fnBody sRight) (C8.fnScope sRight) dV kV doc pm an (.ref cc) ct) ["dice"] []
  k : PySem.W.keepIn K (.ref f) = true
  c : ∃ o, h.get? cc = some o ∧ PySem.W.codeHdIn [(cc, o)] cc PP = true
  t : h.get? PP = some tbO
  n : K.lookup PP = none
section
variable {w : World} {K : PySem.W.Frag} {mg : Str → Option Value} {g : Addr → Option Obj} {h base : Heap}
theorem right_is (t : T79 K g h) (G : h.Ns mainGlobals mg) : ∃ f cc PP, RightD K mg h f cc PP := by
  obtain ⟨f, fd, hm, F⟩ := def79 t G (k := 169) (x := "_law_right") (q := "_law_right") (st := sRight) (by kernel_rfl)
  obtain ⟨f', oc', od', fd', osl', cc, PP, e1, e2, e3, e4, e5, e6⟩ := mk_ok t (x := "_law_right") (j := 169) (q := "_law_right") (by kernel_rfl)
  have hm' := PySem.W.mg_of t.KX G e1
  rw [hm] at hm'
  cases hm'
  have bd := bind_st F (ps := ["dice"]) (by decide +kernel)
  obtain ⟨oc, od, dV, kV, doc, pm, an, cdv, ct, osl, rfl, lk, hcd, _, _⟩ := F.ex
  rw [lk] at e2
  cases e2
  cases e3
  exact ⟨f, cc, PP, hm, ⟨_, _, _, _, _, _, _, _, _, lk, hcd, bd⟩, F.kp, e4, e5, e6⟩
variable {f : Addr} {cdv : Value} {A : Around} {outer : List Env} {s : Shared} {H0 : Hp} {E : XK}
abbrev XL (w : World) (K : PySem.W.Frag) (mg : Str → Option Value) (base : Heap) (f : Addr) (cdv : Value) (A : Around) (outer : List Env) (s : Shared) (H : Hp) (E : XK) : Cx :=
  (cxOf C8.CX0 P79 w K mg base nLaw "law" (C8.fnScope sLaw) f cdv A outer s H E).nox
abbrev lamQ : Str := (envOfC "_law_right" (C8.fnScope sRight) 0 0 .none).qual ++ "<lambda>"
def tRight (T : List (Addr × Str)) (te : TE) : TE := fun σ H Q => tCons te tNil σ H fun vs H1 => ∃ p, vs = [.ref p] ∧ Keep79 T p H1 ∧ ∀ H', LamX.Tabs T H' → Q (.bl true) H'
theorem pe_right (t : T79 K g h) (G : h.Ns mainGlobals mg) {fR cc PP : Addr} (R : RightD K mg h fR cc PP) (TB : LamX.TabB base mg cc PP) (hA : A.guards = some []) (hr : Room 66 (XL w K mg base f cdv A outer s H0 E).A) (hg : Gl (XL w K mg base f cdv A outer s H0 E) "_law_right")
    {e : Expr} {te : TE} {p pos : Pos} (he : PE (XL w K mg base f cdv A outer s H0 E) e te) (hs : starEach [e] (XL w K mg base f cdv A outer s H0 E).env = (false, eval e (XL w K mg base f cdv A outer s H0 E).env) :: starEach [] (XL w K mg base f cdv A outer s H0 E).env := by rfl) :
    PE (XL w K mg base f cdv A outer s H0 E) (.Call (.Name "_law_right" p) [e] [] pos) (tRight [(PP, lamQ)] te) := by
  refine ⟨fun pins s' σ H Q I q => ?_⟩
  have ha : PA (XL w K mg base f cdv A outer s H0 E) [e] (tCons te tNil) := pa_cons he pa_nil hs
  refine wpAny_Call_Name_kw (ld_glob I hg R.g ?_)
  refine PySem.W.callWith_K (h₀ := base) I.ok.mod.kin R.k (thn (ha.run pos pins s' σ H (fun vs H1 => ∃ p, vs = [.ref p] ∧ Keep79 [(PP, lamQ)] p H1 ∧ ∀ H', LamX.Tabs [(PP, lamQ)] H' → Q (.bl true) H') I ?_) fun us s1 hh => ⟨?_, ?_⟩) hs (by rfl)
  · exact q
  · obtain ⟨_, _, I1, _⟩ := hh
    exact I1.kIn
  obtain ⟨vs, H1, I1, r1, p, rfl, kp, qq⟩ := hh
  obtain ⟨u, rfl, ru⟩ := vals1 r1
  obtain ⟨oc, od, dV, kV, doc, pm, an, ct, osl, lk, hcd, bd⟩ := R.ex
  have rc : codeAny (model P79 w) (XL w K mg base f cdv A outer s H0 E).A (.call (.ref fR) ⟨[u], []⟩) (CR C8.CX0 (XL w K mg base f cdv A outer s H0 E).stack P79 w H1 s1 Q C8.E0) s1 := by
    refine LamX.run_ofS (k := 65) (N := nRight) (ps := ["dice"]) (us := [u]) (vs := [.ref p]) lk hcd scRight hr I1.env0 (bd s1 [u] I1.kIn rfl) (.cons ru .nil) rfl fun hr' => ?_
    obtain ⟨tb, hb, qb⟩ := bad_body (w := w) (base := base) (f := fR) (outer := (XL w K mg base f cdv A outer s H0 E).stack) (s := s1) (H0 := H1) (E := C8.E0) t G TB hr' p
    obtain ⟨tg, hg', qg⟩ := good_part (w := w) (base := base) (f := fR) (cc := cc) (outer := (XL w K mg base f cdv A outer s H0 E).stack) (s := s1) (H0 := H1) (E := C8.E0) t G (A := (XL w K mg base f cdv A outer s H0 E).A) hA hr' p [(PP, lamQ)]
    have gRange : Gl (XR w K mg base fR cc (XL w K mg base f cdv A outer s H0 E).A (XL w K mg base f cdv A outer s H0 E).stack s1 H1 C8.E0) "range" := show (C8.fnScope sRight).names.lookup ("range" : Str) = some NameKind.globalImplicit by decide +kernel
    have l1 : Loc (C8.fnScope sRight) "turn" := .inl (by decide +kernel)
    refine ⟨_, PSs.nox (pss_cons (ps_for PassesOwn.never rfl (pi_range1 gRange (t.mg_none G (by kernel_rfl)) (pa_cons pe_int pa_nil)) (pg_name (i := 1) scRight.nd rfl l1) hb) hg'), ?_⟩
    refine ⟨6, rfl, by decide, by decide, for_range (lo := 0) (n := 6) (fun i σ H => ∃ a1 a2 a3 a4 a5 a6 a7, σ = [some (.ref p), a1, a2, a3, a4, a5, a6, a7] ∧ Keep79 [(PP, lamQ)] p H) ⟨none, none, none, none, none, none, none, rfl, kp⟩ (fun i σ H hi ⟨a1, a2, a3, a4, a5, a6, a7, e, k⟩ => ?_) (fun σ H ⟨a1, a2, a3, a4, a5, a6, a7, e, k⟩ => ?_)⟩
    · subst e
      exact qb _ _ a2 a3 a4 a5 a6 a7 H k fun b2 b7 H' k' => ⟨_, b2, a3, a4, a5, a6, b7, rfl, k'⟩
    · subst e
      exact qg _ a1 a2 a3 a4 a5 a6 a7 H k fun H' k' => qq H' k'
  refine wpAny_call (codeAny_mono rc fun r s2 hq => ?_)
  cases r with
  | error e => exact (show False from hq).elim
  | ok fl =>
    cases fl with
    | ret u => exact I1.after hq
    | next => exact False.elim hq
    | brk => exact False.elim hq
    | cont => exact False.elim hq
end
end Gn

/-! k79: law. -/
namespace Gn
open PySem PySem.Spec PyProof.Rows L2
def c79L : SC := (L79.ent (none, "law", "law", sLaw)).c
theorem n79L : nLaw = c79L.N := by decide +kernel
def retE : Stmt → Expr
  | .Return (some e) _ => e
  | _ => .Constant .none 0 ⟨0, 0, 0, 0⟩
def andE (k : Nat) : Expr → Expr
  | .BoolOp _ es _ => es.getD k (.Constant .none 0 ⟨0, 0, 0, 0⟩)
  | e => e
def cmpL : Expr → Expr
  | .Compare a _ _ _ => a
  | e => e
def lawRet : Expr := retE ((C8.fnBody sLaw).getD 1 (.Pass ⟨0, 0, 0, 0⟩))
def lk1 : Expr := cmpL (andE 0 lawRet)
def lk2 : Expr := andE 1 lawRet
def endB : Bool := match (run L79.G 3000).e 60 (cE 40 c79L lk1) [none, none, none] [], rn79 165 [] [] with
  | some (t, h), some (t2, h2) => (match T.toS h t, T.toS h2 t2 with
    | some d, some d2 => PyData.eqv d d2
    | _, _ => false)
  | _, _ => false
def endB2 : Bool := match (run L79.G 3000).e 60 (cE 40 c79L lk2) [none, none, none] [] with
  | some (.bl true, _) => true
  | _ => false
theorem end_is : endB = true := by decide +kernel
theorem end2_is : endB2 = true := by decide +kernel
theorem end_ok : ∃ t h t2 h2 d d2, (run L79.G 3000).e 60 (cE 40 c79L lk1) [none, none, none] [] = some (t, h) ∧ rn79 165 [] [] = some (t2, h2) ∧ T.toS h t = some d ∧ T.toS h2 t2 = some d2 ∧ PyData.eqv d d2 = true := by
  have h := end_is
  unfold endB at h
  split at h
  · rename_i t h1 t2 h2 e1 e2
    split at h
    · rename_i d d2 e3 e4
      exact ⟨t, h1, t2, h2, d, d2, e1, e2, e3, e4, h⟩
    · cases h
  · cases h
theorem end2_ok : ∃ h, (run L79.G 3000).e 60 (cE 40 c79L lk2) [none, none, none] [] = some (.bl true, h) := by
  have h := end2_is
  unfold endB2 at h
  split at h
  · exact ⟨_, by assumption⟩
  · cases h
def spJr (C : Tx) (t2 : T) (h2 : Hi) : Sp := fun vs H Q _ => vs = [] ∧ PV C [] H t2 h2 Q
section
variable {w : World} {K : PySem.W.Frag} {mg : Str → Option Value} {g : Addr → Option Obj} {h base : Heap} {f : Addr} {cdv : Value} {A : Around} {outer : List Env} {s : Shared} {H0 : Hp} {E : XK}
theorem xok79L (t : T79 K g h) (G : h.Ns mainGlobals mg) (hr : Room 60 (XL w K mg base f cdv A outer s H0 E).A) : XOk L79.G c79L 60 (XL w K mg base f cdv A outer s H0 E) := by
  have tk := tab79 (w := w) t G
  have he : L79.tb[170]? = some (L79.ent (none, "law", "law", sLaw)) := ent79 (by kernel_rfl)
  have hm := List.mem_of_getElem? he
  have fn_of_k : ∀ (k' : Nat) (e' : Ent), L79.tb[k']? = some e' → L79.G.fns[k']? = some e'.fi := fun k' e' h1 => by rw [tk.fns, List.getElem?_map, h1]; rfl
  refine ⟨n79L, scLaw.nd, rfl, rfl, hr, fun _ _ => .inl rfl, rfl, tk.bmg, fun y b hy => ?_, fun f q hf => tk.fl _ hm f q hf, fun m q hq => ?_⟩
  · have q := tk.gl _ hm y b hy
    cases b with
    | con k => exact q
    | fn k =>
      obtain ⟨e', h1, h2, h3⟩ := q
      exact ⟨e'.fi, fn_of_k _ _ h1, fun l' hl' => (kept_all tk l' k e' h1).cal h3⟩
    | cls k =>
      obtain ⟨e', A', h1, h2, h3⟩ := q
      exact ⟨A', _, e'.fi, h2, h3, fn_of_k _ _ h1, fun l' hl' => let ⟨_, _, _, _, z⟩ := kept_all tk l' k e' h1; z A'⟩
  · obtain ⟨e', A', h1, h2, h3, h4⟩ := tk.mt _ hm m q hq
    exact ⟨A', _, e'.fi, h2, h3, h4, fn_of_k _ _ h1, fun l' hl' => (kept_all tk l' _ e' h1).fnR⟩
theorem law_body (t : T79 K g h) (G : h.Ns mainGlobals mg) {fR cc PP a : Addr} {vs : List Value} {ns : List Int} (R : RightD K mg h fR cc PP) (TB : LamX.TabB base mg cc PP) (hA : A.guards = some []) (hr : Room 66 (XL w K mg base f cdv A outer s H0 E).A) (en : Entry K H0 a PP vs ns) :
    ∃ tb, PSs (XL w K mg base f cdv A outer s H0 E) (C8.fnBody sLaw) tb ∧ tb { nx := fun _ _ => L2.V.non = L2.V.bl true, rt := fun v _ => v = .bl true } (L2.start nLaw [.ref a]) H0 := by
  obtain ⟨fD, fdD, mD, FD⟩ := def79 t G (k := 162) (x := "_law_dice") (q := "_law_dice") (st := sDice) (by kernel_rfl)
  have mL : mg "len" = none := t.mg_none G (by kernel_rfl)
  have mMx : mg "max" = none := t.mg_none G (by kernel_rfl)
  have mMn : mg "min" = none := t.mg_none G (by kernel_rfl)
  have cD : C8.Cal P79 w K mg base 61 "_law_dice" (spDice K) [] := ⟨fD, fdD, _, [], ok_dice FD mL (t.mg_none G (by kernel_rfl)) mMx (t.mg_none G (by kernel_rfl)), mD, FD.kp, bind_st FD (by decide +kernel), .nil⟩
  obtain ⟨t1, h1, t2, h2, d, d2, e1, e2, e3, e4, e5⟩ := end_ok
  obtain ⟨h3, e6⟩ := end2_ok
  have cK : C8.Cal P79 w K mg base 61 "_law_jr_kinds" (spJr (C79 w K mg) t2 h2) [] := C8.Cal.imp (cal79 t G (k := 165) (q := "_law_jr_kinds") (st := topAt 224) (by kernel_rfl)) fun vs H Q E ⟨z, q⟩ => by
    subst z
    exact ⟨3000, [], [], [], t2, h2, sr_nil, .nil, rfl, e2, q⟩
  have hc : ∀ y : Str, (C8.fnScope sLaw).names.lookup y = some NameKind.globalImplicit → Gl (XL w K mg base f cdv A outer s H0 E) y := fun _ h => h
  have gD := hc "_law_dice" (by decide +kernel)
  have gR := hc "_law_right" (by decide +kernel)
  have gK := hc "_law_jr_kinds" (by decide +kernel)
  have gL := hc "len" (by decide +kernel)
  have gMx := hc "max" (by decide +kernel)
  have gMn := hc "min" (by decide +kernel)
  have gRg := hc "range" (by decide +kernel)
  have v0 : Vis (C8.fnScope sLaw) "script" := .inl (by decide +kernel)
  have v1 : Vis (C8.fnScope sLaw) "spot" := .inl (by decide +kernel)
  have v2 : Vis (C8.fnScope sLaw) "dice" := .inl (by decide +kernel)
  have l1 : Loc (C8.fnScope sLaw) "spot" := .inl (by decide +kernel)
  have l2 : Loc (C8.fnScope sLaw) "dice" := .inl (by decide +kernel)
  have hu : (XL w K mg base f cdv A outer s H0 E).A.units + 64 < cLine := by have := hr.un; omega
  have x := xok79L (w := w) (base := base) (f := f) (cdv := cdv) (outer := outer) (s := s) (H0 := H0) (E := E) t G (hr.mono (by decide))
  have Se := snd_all L79.G 3000
  refine ⟨_, pss_cons (ps_for PassesOwn.never rfl (pi_range1 gRg (t.mg_none G (by kernel_rfl)) (pa_cons (pe_callB (call_max2 rfl) gMx mMx (by rfl) (pa_cons pe_int (pa_cons (pe_callB (call_min2 rfl) gMn mMn (by rfl) (pa_cons pe_int (pa_cons (pe_callB call_len_seq gL mL PySem.boot_len (pa_cons (pe_var (i := 0) rfl v0) pa_nil)) pa_nil))) pa_nil))) pa_nil)) (pg_name (i := 1) scLaw.nd rfl l1)
      (pss_cons (ps_set (i := 2) scLaw.nd rfl l2 (C8.pe_c cD hr (by decide) gD (pa_cons (pe_var (i := 0) rfl v0) (pa_cons (pe_var (i := 1) rfl v1) pa_nil))))
      (pss_one (ps_if (pt_not (pt_truth (pe_frz (pe_right t G R TB hA hr gR (pe_var (i := 2) rfl v2))) (fun _ => rfl))) (pss_one (ps_ret pe_bl)) pss_nil))))
    (pss_one (ps_ret (pe_and (pe_cmpR (op_eqD hu) (Se.e 40 c79L 60 _ lk1 x) (pe_c0 cK (hr.mono (by decide)) gK) (nomark _)) (pe_one (Se.e 40 c79L 60 _ lk2 x))))), ?_⟩
  have rs0 : ∀ (H : Hp) (b0 b1 b2 : Option V), RepS K H [] [none, none, none] [b0, b1, b2] := fun H b0 b1 b2 => ⟨rfl, fun i t e => by
    match i, e with
    | 0, e => cases e
    | 1, e => cases e
    | 2, e => cases e
    | n + 3, e => cases e⟩
  refine ⟨.ref a, rfl, a, _, rfl, .inl en.sq, 5, _, rfl, 1, _, rfl, _, rfl, ?_⟩
  have hj : ∀ m : Int, 1 ≤ (if (if m < 5 then m else 5) > 1 then (if m < 5 then m else 5) else 1) ∧ (if (if m < 5 then m else 5) > 1 then (if m < 5 then m else 5) else 1) ≤ 5 := fun m => by
    split <;> split <;> omega
  obtain ⟨j1, j2⟩ := hj ((ns.map V.int).length : Int)
  generalize (if (if ((ns.map V.int).length : Int) < 5 then ((ns.map V.int).length : Int) else 5) > 1 then (if ((ns.map V.int).length : Int) < 5 then ((ns.map V.int).length : Int) else 5) else 1) = j at j1 j2
  refine ⟨by omega, by omega, for_range (lo := 0) (n := j.toNat) (fun i σ H => ∃ b1 b2, σ = [some (.ref a), b1, b2] ∧ SqL K H a (ns.map V.int) ∧ LamX.Tabs [(PP, lamQ)] H) ⟨none, none, rfl, en.sq, fun q hq => by
      rw [List.mem_singleton.mp hq]
      exact LamX.TabS.nil en.tb⟩ (fun i σ H hi ⟨b1, b2, e, sq, tb⟩ => ?_) (fun σ H ⟨b1, b2, e, sq, tb⟩ => ?_)⟩
  · subst e
    refine ⟨.ref a, rfl, .int (0 + (i : Int)), rfl, a, ns, i, by rw [Int.zero_add]; rfl, sq, by omega, fun p x y z hp => ?_⟩
    refine ⟨.ref p, rfl, p, rfl, ⟨⟨x, y, z, upd_same⟩, tb.ext (new_ext hp)⟩, fun H' T' fz => ⟨true, rfl, ?_⟩⟩
    exact ⟨_, _, rfl, en.fz H' fz, T'⟩
  · subst e
    refine ⟨[], [none, none, none], [], sr_nil, rs0 _ _ _ _, t1, h1, e1, fun ι1 H1 v1 to1 r1 => ⟨rfl, fun ι2 H2 v2 to2 r2 => ?_⟩⟩
    have dr := To.drop to1.sr to2
    obtain ⟨q1, q2⟩ := toS_ok dr.sr e3 (dr.rep to1.sr r1)
    obtain ⟨q3, q4⟩ := toS_ok to2.sr e4 r2
    refine ⟨d, d2, q1, q3, q2, q4, true, by rw [e5], ?_⟩
    refine ⟨[], [none, none, none], [], sr_nil, rs0 _ _ _ _, .bl true, h3, e6, fun ι3 H3 v3 to3 r3 => ?_⟩
    cases r3
    rfl
end
end Gn

set_option maxHeartbeats 0
/-! k79: the end. -/
namespace Gn
open PySem PySem.Spec PyProof.Rows L2
section
variable {w : World} {K : PySem.W.Frag} {mg : Str → Option Value} {g : Addr → Option Obj} {h base : Heap}
theorem law_run (t : T79 K g h) (G : h.Ns mainGlobals mg) {fa fR cc PP a : Addr} {vs : List Value} {ns : List Int} (R : RightD K mg h fR cc PP) (TB : LamX.TabB base mg cc PP) (hfa : mg "law" = some (.ref fa)) {s₁ : Shared} {H : Hp} (e0 : Env0 P79 w K mg base callerA [] s₁ H) (en : Entry K H a PP vs ns) :
    codeAny (model P79 w) callerA (.call (.ref fa) ⟨[.ref a], []⟩) (CR C8.CX0 [] P79 w H s₁ (fun v _ => v = .bl true) C8.E0) s₁ := by
  obtain ⟨f, fd, hm, F⟩ := def79 t G (k := 170) (x := "law") (q := "law") (st := sLaw) (by kernel_rfl)
  have hm' := hm
  rw [hfa] at hm'
  cases hm'
  have bd := bind_st F (ps := ["script"]) (by decide +kernel)
  obtain ⟨oc, od, dV, kV, doc, pm, an, cdv, ct, osl, rfl, lk, hcd, _, _⟩ := F.ex
  have KX : K.In s₁.heap := e0.mod.kin.keeps fun b o e => (e0.bs b o e).1
  refine LamX.run_ofS (CX := C8.CX0) (k := 66) (N := nLaw) (ps := ["script"]) (us := [.ref a]) (vs := [.ref a]) lk hcd scLaw ⟨rfl, by decide, by decide⟩ e0 (bd s₁ [.ref a] KX rfl) (.cons rfl .nil) rfl fun hr' => ?_
  obtain ⟨tb, h1, h2⟩ := law_body (w := w) (base := base) (f := fa) (cdv := cdv) (outer := []) (s := s₁) (H0 := H) (E := C8.E0) t G R TB (A := callerA) rfl hr' en
  exact ⟨tb, h1.nox, h2⟩
end
end Gn
open PySem PySem.W PySem.Calls PyProof.Rows
theorem PySem.Challenge.cw_rimtrees_k79_errors_of_the_judge_holds : PySem.Challenge.rw_rimtrees_k79_errors_of_the_judge.Holds := by
  refine Gn.of79 fun said => ?_
  refine HandSHeadRun.head_any (r := Gn.R79) (q := Gn.q79) (H := Gn.hk79) (ob := Gn.ob79) (M := 7200) (loose := Gn.loose79) (d := HandSHeadRun.topDef Gn.P79 229) (kwd := []) Gn.obT_eq
    (by kernel_rfl) (fun s => by kernel_rfl) (fun w => Gn.run_split (nm := Gn.nm79) (Gn.run79a w) (Gn.run79b w) Gn.nm79_ok (Gn.run79c w) (Gn.run79d w)) (by kernel_rfl) (by kernel_rfl) (by kernel_rfl) (by rfl) (by first | assumption | decide +kernel) (by decide +kernel) Gn.bare79 ?hw ?hc
  case hw => w_witness2
  case hc =>
    refine Att.attach_callB (l := PySem.Challenge.rw_rimtrees_k79_errors_of_the_judge) (n := 63) rfl (by kernel_rfl) fun w s₀ s₁ mg mb fa o pm cd doc a vs ns G Y ho hd hcd hmg0 hobj hints hlen hbits hg => ?_
    have hmg : mg ("law" : PySem.Str) = some (.ref fa) := by
      have e : (HandSHeadRun.topDef Gn.P79 229).name = ("law" : PySem.Str) := by kernel_rfl
      rw [← e]
      exact hmg0
    obtain ⟨K, g, t⟩ := Gn.told (by intro z; cases z) Y
    obtain ⟨fR, cc, PP, R⟩ := Gn.right_is t G.T.g
    obtain ⟨oc, h1, h2⟩ := R.c
    exact Gn.law_call1 t.KX G.T.g G.T.b G.T.builtins G.T.nolimit hg R.t R.n h1 h2 G.T.bmain hobj hints (Nat.le_trans hlen (by decide)) fun base H kin Gb TB e0 _ en => Gn.law_run t G.T.g R TB hmg e0 en
