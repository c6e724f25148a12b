import PyProof.Rows.All
import Wide.All
import OpenK.AllK
import Wide.FinOn
import Open.SpecLaws
import KE.OsGo
import HandS.ForSpec
import HandS.Comp
import HandS.Iter
import HandS.Deep
import PySem.Challenge.RW_surveyline_s01_answers
set_option Elab.async false
set_option linter.all false
set_option maxRecDepth 100000
set_option maxHeartbeats 4000000
section
/-! # The mirror: the state of the site, and each operation as a total function -/
namespace Sv
open Vbxlaf

structure M where
  slots : List Value
  made : Nat
  rows : Nat → List Value
  living : Nat → Bool
  uses : Nat
  es : Nat → Nat
  im : Nat → Nat
  led : Nat → List Nat
  sc : Bool
  changed : Nat → Bool
  fresh : Nat → Bool
  surveys : List (List Line)

def fset {A : Type} (f : Nat → A) (i : Nat) (v : A) : Nat → A := fun j => if j = i then v else f j
theorem fset_same {A : Type} {f : Nat → A} {i : Nat} {v : A} : fset f i v i = v := if_pos rfl
theorem fset_ne {A : Type} {f : Nat → A} {i j : Nat} {v : A} (h : j ≠ i) : fset f i v j = f j := if_neg h

def M.start : M := ⟨List.replicate 6 .nothing, 0, fun _ => [], fun _ => false, 0, fun _ => 0, fun _ => 0, fun _ => [], false, fun _ => false, fun _ => false, []⟩

/-- 1, 2, .. n -/
def nums (n : Nat) : List Nat := (List.range n).map (· + 1)
def objectsNow (m : M) : List Nat := (nums 40).filter m.living
def entriesNow (m : M) : List Nat := (nums 40).filter fun n => decide (0 < m.es n)
def importsNow (m : M) : List Nat := (nums 20).filter fun n => decide (0 < m.im n)
def namesNow (m : M) : List Name := (entriesNow m).map (fun n => ⟨1, n⟩) ++ (importsNow m).map fun n => ⟨2, n⟩
def sourcesNow (m : M) : List Nat := 0 :: entriesNow m

/-! ### what leads to what -/
def add1 (f : List Value) (v : Value) : List Value := if v ≠ .nothing ∧ v ∉ f then f ++ [v] else f
def addNew (f : List Value) (vs : List Value) : List Value := vs.foldl add1 f
def fieldsM (rows : Nat → List Value) : Value → List Value
  | .object n => rows n
  | _ => []
def stepR (rows : Nat → List Value) (f : List Value) (at_ : Nat) : List Value := match f[at_]? with
  | some v => addNew f (fieldsM rows v)
  | none => f
def reached (rows : Nat → List Value) (seeds : List Value) : List Value := (List.range 60).foldl (stepR rows) (addNew [] seeds)
def ledBy (m : M) (source : Nat) : List Value := if source = 0 then reached m.rows m.slots else reached m.rows [.object source]
def objectsLed (m : M) (source : Nat) : List Nat := objectsIn (ledBy m source)

/-! ### paths -/
abbrev Way := Value × List Nat
def addW (way : List Nat) (f : List Way) (p : Value × Nat) : List Way := if p.1 ≠ .nothing ∧ p.1 ∉ f.map Prod.fst then f ++ [(p.1, way ++ [p.2])] else f
def addWays (f : List Way) (vs : List Value) (way : List Nat) : List Way := vs.zipIdx.foldl (addW way) f
def stepW (rows : Nat → List Value) (f : List Way) (at_ : Nat) : List Way := match f[at_]? with
  | some p => addWays f (fieldsM rows p.1) p.2
  | none => f
def ways (rows : Nat → List Value) (first : List Value) : List Way := (List.range 60).foldl (stepW rows) (addWays [] first [])
def firstPath (m : M) (source : Nat) (target : Value) : List Nat :=
  match (ways m.rows (if source = 0 then m.slots else m.rows source)).find? fun p => decide (p.1 = target) with
  | some p => p.2
  | none => []

/-! ### lines, what is affected, work -/
def stampM (m : M) (name : Name) : Nat := if name.kind = 1 then m.es name.number else m.im name.number
def lineM (m : M) (name : Name) : Line :=
  ⟨name, stampM m name, decide (valueOf name ∈ ledBy m 0), (entriesNow m).filter fun n => decide (Value.object n ≠ valueOf name) && decide (valueOf name ∈ ledBy m n)⟩
def linesNow (m : M) : List Line := (namesNow m).map (lineM m)
def affM (m : M) (source : Nat) : Bool :=
  m.surveys.isEmpty || (decide (source = 0) && m.sc) || (decide (source ≠ 0) && m.fresh source) || (m.led source).any m.changed
def affectedNow (m : M) : List Nat := (sourcesNow m).filter (affM m)
def workNow (m : M) : Nat := (affectedNow m).foldl (fun a s => a + (objectsLed m s).length) 0
def findLine (lines : List Line) (kind number : Int) : Option Line := lines.find? fun l => decide ((l.name.kind : Int) = kind) && decide ((l.name.number : Int) = number)
def stampAt (lines : List Line) (name : Name) : Option Nat := (findLine lines name.kind name.number).map fun l => l.stamp
def hasStamp (m : M) (lines : List Line) (name : Name) : Bool := decide (stampAt lines name = some (stampM m name))
def firstMoved (m : M) (lines : List Line) (line : Line) : Option Name := (line.name :: line.sources.map fun n => ⟨1, n⟩).find? fun name => !hasStamp m lines name

/-! ### changes -/
def put (m : M) (slot : Nat) (v : Value) : M := { m with slots := m.slots.set slot v, sc := m.sc || decide (m.slots.getD slot .nothing ≠ v) }
def useObject (m : M) (n : Nat) : M := { m with uses := m.uses + 1, es := fset m.es n (m.uses + 1), fresh := if m.es n = 0 then fset m.fresh n true else m.fresh }
def useForeign (m : M) (n : Nat) : M := { m with uses := m.uses + 1, im := fset m.im n (m.uses + 1) }
def makeM (m : M) (fc : Nat) : M := { m with made := m.made + 1, rows := fset m.rows (m.made + 1) (List.replicate fc .nothing), living := fset m.living (m.made + 1) true }
def changeField (m : M) (n f : Nat) (v : Value) : M × Nat :=
  if (m.rows n).getD f .nothing ≠ v then ({ m with rows := fset m.rows n ((m.rows n).set f v), changed := fset m.changed n true }, 1) else (m, 0)
def dropObj (m : M) (n : Nat) : M := { m with rows := fset m.rows n [], living := fset m.living n false }
def dropImp (m : M) (n : Nat) : M := { m with im := fset m.im n 0 }
def dropEnt (m : M) (n : Nat) : M := { m with es := fset m.es n 0 }
def allLed (m : M) : List Value := reached m.rows (m.slots ++ (entriesNow m).map Value.object)
def freedOf (m : M) : List Nat := (objectsNow m).filter fun n => decide (Value.object n ∉ allLed m)
def givenUp (m : M) : List Nat := (importsNow m).filter fun n => decide (Value.foreign n ∉ allLed m)
def collectM (m : M) : M := (givenUp m).foldl dropImp ((freedOf m).foldl dropObj m)
def keep (m : M) : M := { m with surveys := m.surveys ++ [linesNow m], led := fun s => if s ∈ sourcesNow m then objectsLed m s else [], sc := false, changed := fun _ => false, fresh := fun _ => false }

/-! ### the operations -/
def slotOk (z : Int) : Bool := decide (0 ≤ z) && decide (z < 6)
def fieldOk (z : Int) : Bool := decide (0 ≤ z) && decide (z < 4)
def countOk (z : Int) : Bool := decide (0 ≤ z) && decide (z ≤ 4)
def foreignOk (z : Int) : Bool := decide (1 ≤ z) && decide (z ≤ 20)
def kindOk (z : Int) : Bool := decide (z = 1) || decide (z = 2)
/-- Site.stamp_of -/
def stampZ (m : M) (kind number : Int) : Nat :=
  if kind = 1 ∧ 1 ≤ number ∧ number ≤ 40 then m.es number.toNat
  else if kind ≠ 1 ∧ 1 ≤ number ∧ number ≤ 20 then m.im number.toNat else 0
def hasObj (m : M) (number : Int) : Bool := decide (1 ≤ number) && (decide (number ≤ 40) && m.living number.toNat)
def slotV (m : M) (z : Int) : Value := m.slots.getD z.toNat .nothing
def kindN : Value → Nat
  | .nothing => 0
  | .object _ => 1
  | .foreign _ => 2
def numN : Value → Nat
  | .nothing => 0
  | .object n => n
  | .foreign n => n
def pairI (v : Value) : List Int := [(kindN v : Int), (numN v : Int)]
def fieldFault (m : M) (slot field : Int) : Int := match slotV m slot with
  | .object n => if ((m.rows n).length : Int) ≤ field then -5 else 0
  | _ => -3
def intL (l : List Nat) : List Int := l.map fun (n : Nat) => (n : Int)
def flagN (b : Bool) : Nat := if b = true then 1 else 0
def isSource (m : M) (z : Int) : Bool := decide (z = 0) || decide (0 < stampZ m 1 z)
def isTarget (m : M) (kind number : Int) : Bool := if kind = 1 then hasObj m number else decide (0 < stampZ m kind number)
def valueZ (kind number : Int) : Value := if kind = 1 then .object number.toNat else .foreign number.toNat
def lineS (l : Line) : List Int := [(l.name.kind : Int), l.name.number, l.stamp, flagN l.rooted, l.sources.length] ++ intL l.sources
def lineP (l : Line) : List Int := [(l.name.kind : Int), l.name.number, flagN l.rooted, l.sources.length] ++ intL l.sources

def opCreate (m : M) (slot fc : Int) : M × List Int :=
  if (slotOk slot && countOk fc) = false then (m, [-1]) else if 40 ≤ m.made then (m, [-8])
  else (put (makeM m fc.toNat) slot.toNat (.object (m.made + 1)), [((m.made + 1 : Nat) : Int)])
def opCopy (m : M) (t s : Int) : M × List Int := if (slotOk t && slotOk s) = false then (m, [-1]) else (put m t.toNat (slotV m s), [0])
def opClear (m : M) (s : Int) : M × List Int := if slotOk s = false then (m, [-1]) else (put m s.toNat .nothing, [0])
def opRead (m : M) (t s f : Int) : M × List Int :=
  if (slotOk t && (slotOk s && fieldOk f)) = false then (m, [-1]) else if fieldFault m s f ≠ 0 then (m, [fieldFault m s f])
  else (put m t.toNat ((m.rows (numN (slotV m s))).getD f.toNat .nothing), pairI ((m.rows (numN (slotV m s))).getD f.toNat .nothing))
def opWrite (m : M) (t f s : Int) : M × List Int :=
  if (slotOk t && (fieldOk f && slotOk s)) = false then (m, [-1]) else if fieldFault m t f ≠ 0 then (m, [fieldFault m t f])
  else ((changeField m (numN (slotV m t)) f.toNat (slotV m s)).1, [((changeField m (numN (slotV m t)) f.toNat (slotV m s)).2 : Int)])
def opExport (m : M) (s : Int) : M × List Int := if slotOk s = false then (m, [-1]) else match slotV m s with
  | .nothing => (m, [-3])
  | .object n => (useObject m n, [1, (n : Int), ((m.uses + 1 : Nat) : Int)])
  | .foreign n => (useForeign m n, [2, (n : Int), ((m.uses + 1 : Nat) : Int)])
def opArrive (m : M) (o s : Int) : M × List Int := if slotOk s = false then (m, [-1]) else if stampZ m 1 o = 0 then (m, [-6])
  else (useObject (put m s.toNat (.object o.toNat)) o.toNat, [((m.uses + 1 : Nat) : Int)])
def opImport (m : M) (f s : Int) : M × List Int := if (foreignOk f && slotOk s) = false then (m, [-1])
  else (useForeign (put m s.toNat (.foreign f.toNat)) f.toNat, [(flagN (decide (stampZ m 2 f = 0)) : Int), ((m.uses + 1 : Nat) : Int)])
def opRetire (m : M) (o : Int) : M × List Int := if stampZ m 1 o = 0 then (m, [-6]) else (dropEnt m o.toNat, [0])
def opCollect (m : M) : M × List Int := (collectM m, ((freedOf m).length : Int) :: intL (freedOf m) ++ ((givenUp m).length : Int) :: intL (givenUp m))
def opUpdate (m : M) : M × List Int := if 30 ≤ m.surveys.length then (m, [-8])
  else (keep m, [((m.surveys.length + 1 : Nat) : Int), (workNow m : Int), ((linesNow m).length : Int)])
def surveyAt (m : M) (index : Int) : Option (List Line) := if 1 ≤ index ∧ index ≤ (m.surveys.length : Int) then m.surveys[(index - 1).toNat]? else none
def outSurvey (m : M) (index : Int) : List Int := match surveyAt m index with
  | none => [-7]
  | some lines => (lines.length : Int) :: lines.flatMap lineS
def outCurrent (m : M) (index kind number : Int) : List Int := if kindOk kind = false then [-1] else match surveyAt m index with
  | none => [-7]
  | some lines => match findLine lines kind number with
    | none => [-6]
    | some line => if line.rooted = true then [0, 1] else match firstMoved m lines line with
      | none => [1]
      | some name => [0, 2, (name.kind : Int), (name.number : Int)]
def outLines (m : M) : List Int := ((linesNow m).length : Int) :: (linesNow m).flatMap lineP
def affEntries (m : M) : List Nat := (affectedNow m).filter fun s => decide (s ≠ 0)
def outAffected (m : M) : List Int := (flagN (decide (0 ∈ affectedNow m)) : Int) :: ((affEntries m).length : Int) :: intL (affEntries m) ++ [(workNow m : Int)]
def outPath (m : M) (source kind number : Int) : List Int := if kindOk kind = false then [-1]
  else if (isSource m source && isTarget m kind number) = false then [-6]
  else match firstPath m source.toNat (valueZ kind number) with
    | [] => [0]
    | p => 1 :: (p.length : Int) :: intL p
def outStamp (m : M) (kind number : Int) : List Int := if kindOk kind = false then [-1] else if stampZ m kind number = 0 then [-6] else [(stampZ m kind number : Int)]
def pairsFlat (l : List Value) : List Int := l.flatMap pairI
def outObject (m : M) (number : Int) : List Int := if hasObj m number = false then [-6] else ((m.rows number.toNat).length : Int) :: pairsFlat (m.rows number.toNat)
def outStatus (m : M) : List Int := [(m.made : Int), ((objectsNow m).length : Int), ((entriesNow m).length : Int), ((importsNow m).length : Int), (m.uses : Int), (m.surveys.length : Int)]

/-- one operation -/
def opM (m : M) : Call → M × List Int
  | .create slot count => opCreate m slot count
  | .copy t s => opCopy m t s
  | .clear s => opClear m s
  | .read t s f => opRead m t s f
  | .write t f s => opWrite m t f s
  | .exportValue s => opExport m s
  | .arrive o s => opArrive m o s
  | .importReference f s => opImport m f s
  | .retire o => opRetire m o
  | .collect => opCollect m
  | .update => opUpdate m
  | .survey i => (m, outSurvey m i)
  | .isCurrent i k n => (m, outCurrent m i k n)
  | .lines => (m, outLines m)
  | .affected => (m, outAffected m)
  | .path s k n => (m, outPath m s k n)
  | .stamp k n => (m, outStamp m k n)
  | .object n => (m, outObject m n)
  | .slots => (m, pairsFlat m.slots)
  | .status => (m, outStatus m)

/-! ### what holds of every state that is met -/
def okV (m : M) : Value → Prop
  | .nothing => True
  | .object n => m.living n = true
  | .foreign n => 0 < m.im n
structure LineOk (lines : List Line) (l : Line) : Prop where
  kind : l.name.kind = 1 ∨ l.name.kind = 2
  num : l.name.number ≤ 40
  few : l.sources.length ≤ 40
  pos : 0 < l.stamp
  src : ∀ n ∈ l.sources, ∃ k ∈ lines, k.name = ⟨1, n⟩
structure Wf (m : M) : Prop where
  six : m.slots.length = 6
  most : m.made ≤ 40
  lv : ∀ n, m.living n = true → 1 ≤ n ∧ n ≤ m.made
  dead : ∀ n, m.living n = false → m.rows n = []
  four : ∀ n, (m.rows n).length ≤ 4
  ent : ∀ n, 0 < m.es n → m.living n = true
  imp : ∀ n, 0 < m.im n → 1 ≤ n ∧ n ≤ 20
  sOk : ∀ v ∈ m.slots, okV m v
  rOk : ∀ n, ∀ v ∈ m.rows n, okV m v
  ledOk : ∀ n, (m.led n).length ≤ 1000 ∧ ∀ x ∈ m.led n, x ≤ 40
  surv : m.surveys.length ≤ 30
  lns : ∀ ls ∈ m.surveys, ls.length ≤ 60 ∧ ∀ l ∈ ls, LineOk ls l
end Sv
end
section
/-! # What leads to what: the mirror's walk and the specification's levels tell the same -/
namespace Sv
open Vbxlaf

inductive Leads (rows : Nat → List Value) (seeds : List Value) : Value → Prop
  | seed {v : Value} : v ∈ seeds → v ≠ .nothing → Leads rows seeds v
  | step {n : Nat} {v : Value} : Leads rows seeds (.object n) → v ∈ rows n → v ≠ .nothing → Leads rows seeds v

theorem Leads.ne {rows : Nat → List Value} {seeds : List Value} {v : Value} (h : Leads rows seeds v) : v ≠ .nothing := by
  cases h <;> assumption
/-- what leads goes on the same where the fields of what is led to stay -/
theorem Leads.mono {rows rows' : Nat → List Value} {seeds seeds' : List Value} (hs : ∀ v ∈ seeds, v ≠ .nothing → v ∈ seeds') (h : ∀ n, Leads rows seeds (.object n) → ∀ v ∈ rows n, v ≠ .nothing → v ∈ rows' n) {v : Value} (l : Leads rows seeds v) : Leads rows' seeds' v := by
  induction l with
  | seed a b => exact .seed (hs _ a b) b
  | step l a b ih => exact .step ih (h _ l _ a b) b
theorem leads_congr {rows rows' : Nat → List Value} {seeds : List Value} (h : ∀ n, Leads rows seeds (.object n) → rows' n = rows n) (v : Value) : Leads rows' seeds v ↔ Leads rows seeds v := by
  have one : ∀ v, Leads rows seeds v → Leads rows' seeds v := fun v l => Leads.mono (fun _ a _ => a) (fun n ln v a _ => by rw [h n ln]; exact a) l
  constructor
  · intro l
    induction l with
    | seed a b => exact .seed a b
    | step l a b ih => exact .step ih (by rw [← h _ ih]; exact a) b
  · exact one v

/-! ### the mirror's walk -/
theorem mem_add1 {f : List Value} {v x : Value} : x ∈ add1 f v ↔ x ∈ f ∨ (x = v ∧ v ≠ .nothing) := by
  unfold add1
  split
  · rename_i h
    rw [List.mem_append, List.mem_singleton]
    constructor
    · rintro (a | a)
      · exact .inl a
      · exact .inr ⟨a, h.1⟩
    · rintro (a | a)
      · exact .inl a
      · exact .inr a.1
  · rename_i h
    constructor
    · exact .inl
    · rintro (a | ⟨rfl, b⟩)
      · exact a
      · exact Classical.byContradiction fun c => h ⟨b, c⟩
theorem mem_addNew {x : Value} : ∀ {vs f : List Value}, x ∈ addNew f vs ↔ x ∈ f ∨ (x ∈ vs ∧ x ≠ .nothing)
  | [], f => by simp [addNew]
  | v :: vs, f => by
    show x ∈ addNew (add1 f v) vs ↔ _
    rw [mem_addNew, mem_add1, List.mem_cons]
    constructor
    · rintro ((a | ⟨rfl, b⟩) | ⟨a, b⟩)
      · exact .inl a
      · exact .inr ⟨.inl rfl, b⟩
      · exact .inr ⟨.inr a, b⟩
    · rintro (a | ⟨rfl | a, b⟩)
      · exact .inl (.inl a)
      · exact .inl (.inr ⟨rfl, b⟩)
      · exact .inr ⟨a, b⟩
theorem nodup_add1 {f : List Value} {v : Value} (h : f.Nodup) : (add1 f v).Nodup := by
  unfold add1
  split
  · rename_i c
    rw [List.nodup_append]
    refine ⟨h, by simp, ?_⟩
    intro a ha b hb
    rw [List.mem_singleton] at hb
    subst hb
    intro e
    subst e
    exact c.2 ha
  · exact h
theorem nodup_addNew : ∀ {vs f : List Value}, f.Nodup → (addNew f vs).Nodup
  | [], _, h => h
  | _ :: vs, _, h => nodup_addNew (vs := vs) (nodup_add1 h)
theorem add1_pre {f : List Value} {v : Value} : ∃ r, add1 f v = f ++ r := by
  unfold add1
  split
  · exact ⟨[v], rfl⟩
  · exact ⟨[], by simp⟩
theorem addNew_pre : ∀ {vs f : List Value}, ∃ r, addNew f vs = f ++ r
  | [], f => ⟨[], by simp [addNew]⟩
  | v :: vs, f => by
    obtain ⟨r, e⟩ := add1_pre (f := f) (v := v)
    obtain ⟨r', e'⟩ := addNew_pre (vs := vs) (f := add1 f v)
    exact ⟨r ++ r', by show addNew (add1 f v) vs = _; rw [e', e, List.append_assoc]⟩
theorem addNew_len : ∀ {vs f : List Value}, (addNew f vs).length ≤ f.length + vs.length
  | [], f => by simp [addNew]
  | v :: vs, f => by
    show (addNew (add1 f v) vs).length ≤ _
    have h := addNew_len (vs := vs) (f := add1 f v)
    have h2 : (add1 f v).length ≤ f.length + 1 := by
      unfold add1
      split <;> simp
    rw [List.length_cons]
    omega

/-- every value that can be met -/
def univ : List Value := (nums 40).map Value.object ++ (nums 20).map Value.foreign
theorem univ_len : univ.length = 60 := by decide
theorem mem_nums {n x : Nat} : x ∈ nums n ↔ 1 ≤ x ∧ x ≤ n := by
  unfold nums
  rw [List.mem_map]
  constructor
  · rintro ⟨a, h, rfl⟩
    have := List.mem_range.mp h
    omega
  · rintro ⟨a, b⟩
    exact ⟨x - 1, List.mem_range.mpr (by omega), by omega⟩
theorem nums_lt (n : Nat) : (nums n).Pairwise (· < ·) := by
  unfold nums
  rw [List.pairwise_map]
  exact (List.pairwise_lt_range (n := n)).imp fun h => by omega
theorem len_le_of_subset {A : Type} [DecidableEq A] : ∀ {l u : List A}, l.Nodup → (∀ x ∈ l, x ∈ u) → l.length ≤ u.length
  | [], u, _, _ => Nat.zero_le _
  | a :: l, u, hn, hs => by
    have ha : a ∈ u := hs a (List.mem_cons_self ..)
    have h1 := List.nodup_cons.mp hn
    have h2 : l.length ≤ (u.erase a).length := len_le_of_subset h1.2 fun x hx => (List.mem_erase_of_ne (fun e => h1.1 (by rw [← e]; exact hx))).mpr (hs x (List.mem_cons_of_mem _ hx))
    rw [List.length_erase_of_mem ha] at h2
    have h3 : 0 < u.length := List.length_pos_of_mem ha
    rw [List.length_cons]
    omega

/-- the walk behind k turns -/
structure Walked (rows : Nat → List Value) (seeds : List Value) (k : Nat) (f : List Value) : Prop where
  nd : f.Nodup
  sound : ∀ v ∈ f, Leads rows seeds v
  seeds : ∀ v ∈ seeds, v ≠ .nothing → v ∈ f
  done : ∀ (i : Nat) (n : Nat), i < k → f[i]? = some (.object n) → ∀ v ∈ rows n, v ≠ .nothing → v ∈ f
theorem walked0 (rows : Nat → List Value) (seeds : List Value) : Walked rows seeds 0 (addNew [] seeds) where
  nd := nodup_addNew List.nodup_nil
  sound := fun v h => by
    rcases mem_addNew.mp h with a | ⟨a, b⟩
    · cases a
    · exact .seed a b
  seeds := fun v a b => mem_addNew.mpr (.inr ⟨a, b⟩)
  done := fun i n h => by omega
theorem walked1 {rows : Nat → List Value} {seeds : List Value} {k : Nat} {f : List Value} (h : Walked rows seeds k f) : Walked rows seeds (k + 1) (stepR rows f k) := by
  unfold stepR
  cases e : f[k]? with
  | none =>
    refine ⟨h.nd, h.sound, h.seeds, fun i n hi he => ?_⟩
    rcases Nat.lt_or_ge i k with c | c
    · exact h.done i n c he
    · have : i = k := by omega
      subst this
      rw [e] at he
      cases he
  | some v =>
    show Walked rows seeds (k + 1) (addNew f (fieldsM rows v))
    have hv : v ∈ f := List.mem_of_getElem? e
    refine ⟨nodup_addNew h.nd, fun x hx => ?_, fun x a b => mem_addNew.mpr (.inl (h.seeds x a b)), fun i n hi he x hx hne => ?_⟩
    · rcases mem_addNew.mp hx with a | ⟨a, b⟩
      · exact h.sound x a
      · cases v with
        | nothing => cases a
        | object n => exact .step (h.sound _ hv) a b
        | foreign n => cases a
    · obtain ⟨r, er⟩ := addNew_pre (vs := fieldsM rows v) (f := f)
      have hk : k < f.length := (List.getElem?_eq_some_iff.mp e).1
      have he' : f[i]? = some (.object n) := by
        rw [er, List.getElem?_append_left (by omega)] at he
        exact he
      rcases Nat.lt_or_ge i k with c | c
      · exact mem_addNew.mpr (.inl (h.done i n c he' x hx hne))
      · have : i = k := by omega
        subst this
        rw [e] at he'
        cases he'
        exact mem_addNew.mpr (.inr ⟨hx, hne⟩)
theorem walkedN {rows : Nat → List Value} {seeds : List Value} : ∀ (n : Nat), Walked rows seeds n ((List.range n).foldl (stepR rows) (addNew [] seeds))
  | 0 => walked0 rows seeds
  | n + 1 => by
    rw [List.range_succ, List.foldl_append]
    exact walked1 (walkedN n)
theorem reached_nodup {rows : Nat → List Value} {seeds : List Value} : (reached rows seeds).Nodup := (walkedN 60).nd
theorem mem_reached {rows : Nat → List Value} {seeds : List Value} (hU : ∀ v, Leads rows seeds v → v ∈ univ) {v : Value} : v ∈ reached rows seeds ↔ Leads rows seeds v := by
  have W : Walked rows seeds 60 (reached rows seeds) := walkedN 60
  refine ⟨W.sound v, fun l => ?_⟩
  have few : (reached rows seeds).length ≤ 60 := by
    have := len_le_of_subset W.nd fun x hx => hU x (W.sound x hx)
    rw [univ_len] at this
    exact this
  induction l with
  | seed a b => exact W.seeds _ a b
  | step l a b ih =>
    rename_i n v
    obtain ⟨i, hi, e⟩ := List.getElem_of_mem ih
    exact W.done i n (by omega) (by rw [List.getElem?_eq_getElem hi, e]) _ a b
theorem reached_len {rows : Nat → List Value} (hr : ∀ n, (rows n).length ≤ 4) (seeds : List Value) (n : Nat) : ((List.range n).foldl (stepR rows) (addNew [] seeds)).length ≤ seeds.length + 4 * n := by
  induction n with
  | zero =>
    have := addNew_len (vs := seeds) (f := [])
    simpa using this
  | succ n ih =>
    rw [List.range_succ, List.foldl_append]
    show (stepR rows ((List.range n).foldl (stepR rows) (addNew [] seeds)) n).length ≤ _
    generalize (List.range n).foldl (stepR rows) (addNew [] seeds) = f at ih
    unfold stepR
    cases f[n]? with
    | none => show f.length ≤ _; omega
    | some v =>
      show (addNew f (fieldsM rows v)).length ≤ _
      have h1 := addNew_len (vs := fieldsM rows v) (f := f)
      have h2 : (fieldsM rows v).length ≤ 4 := by
        cases v with
        | object k => exact hr k
        | nothing => exact Nat.zero_le _
        | foreign k => exact Nat.zero_le _
      omega

/-! ### lists in order -/
theorem sorted_ext : ∀ {l r : List Nat}, l.Pairwise (· < ·) → r.Pairwise (· < ·) → (∀ x, x ∈ l ↔ x ∈ r) → l = r
  | [], [], _, _, _ => rfl
  | [], b :: r, _, _, h => by cases (h b).mpr (List.mem_cons_self ..)
  | a :: l, [], _, _, h => by cases (h a).mp (List.mem_cons_self ..)
  | a :: l, b :: r, hl, hr, h => by
    rw [List.pairwise_cons] at hl hr
    have e : a = b := by
      have h1 := (h a).mp (List.mem_cons_self ..)
      have h2 := (h b).mpr (List.mem_cons_self ..)
      rw [List.mem_cons] at h1 h2
      rcases h1 with h1 | h1
      · exact h1
      · rcases h2 with h2 | h2
        · exact h2.symm
        · have := hr.1 a h1
          have := hl.1 b h2
          omega
    subst e
    rw [sorted_ext hl.2 hr.2 fun x => ?_]
    constructor
    · intro hx
      have h1 := (h x).mp (List.mem_cons_of_mem _ hx)
      rw [List.mem_cons] at h1
      rcases h1 with h1 | h1
      · have := hl.1 x hx
        omega
      · exact h1
    · intro hx
      have h1 := (h x).mpr (List.mem_cons_of_mem _ hx)
      rw [List.mem_cons] at h1
      rcases h1 with h1 | h1
      · have := hr.1 x hx
        omega
      · exact h1
theorem mem_insertNumber {x n : Nat} : ∀ {l : List Nat}, x ∈ insertNumber n l ↔ x = n ∨ x ∈ l
  | [] => by simp [insertNumber]
  | a :: l => by
    unfold insertNumber
    split
    · simp
    · split
      · rename_i e
        subst e
        simp
      · rw [List.mem_cons, mem_insertNumber, List.mem_cons]
        constructor
        · rintro (h | h | h)
          · exact .inr (.inl h)
          · exact .inl h
          · exact .inr (.inr h)
        · rintro (h | h | h)
          · exact .inr (.inl h)
          · exact .inl h
          · exact .inr (.inr h)
theorem sorted_insertNumber {n : Nat} : ∀ {l : List Nat}, l.Pairwise (· < ·) → (insertNumber n l).Pairwise (· < ·)
  | [], _ => by simp [insertNumber]
  | a :: l, h => by
    rw [List.pairwise_cons] at h
    unfold insertNumber
    split
    · rename_i c
      rw [List.pairwise_cons, List.pairwise_cons]
      refine ⟨fun x hx => ?_, h⟩
      rcases List.mem_cons.mp hx with rfl | hx
      · exact c
      · exact Nat.lt_trans c (h.1 x hx)
    · split
      · exact List.pairwise_cons.mpr h
      · rw [List.pairwise_cons]
        refine ⟨fun x hx => ?_, sorted_insertNumber h.2⟩
        rcases mem_insertNumber.mp hx with rfl | hx
        · omega
        · exact h.1 x hx
theorem mem_sortNumbers {x : Nat} : ∀ {l : List Nat}, x ∈ sortNumbers l ↔ x ∈ l
  | [] => by simp [sortNumbers]
  | a :: l => by
    show x ∈ insertNumber a (sortNumbers l) ↔ _
    rw [mem_insertNumber, mem_sortNumbers, List.mem_cons]
theorem sorted_sortNumbers : ∀ (l : List Nat), (sortNumbers l).Pairwise (· < ·)
  | [] => by simp [sortNumbers]
  | a :: l => sorted_insertNumber (sorted_sortNumbers l)
theorem mem_objectsIn {n : Nat} {l : List Value} : n ∈ objectsIn l ↔ Value.object n ∈ l := by
  unfold objectsIn
  rw [List.mem_filterMap]
  constructor
  · rintro ⟨v, hv, e⟩
    cases v with
    | object k =>
      cases e
      exact hv
    | nothing => cases e
    | foreign k => cases e
  · intro h
    exact ⟨_, h, rfl⟩
theorem mem_foreignsIn {n : Nat} {l : List Value} : n ∈ foreignsIn l ↔ Value.foreign n ∈ l := by
  unfold foreignsIn
  rw [List.mem_filterMap]
  constructor
  · rintro ⟨v, hv, e⟩
    cases v with
    | foreign k =>
      cases e
      exact hv
    | nothing => cases e
    | object k => cases e
  · intro h
    exact ⟨_, h, rfl⟩
theorem nodup_objectsIn {l : List Value} (h : l.Nodup) : (objectsIn l).Nodup := by
  unfold objectsIn
  unfold List.Nodup
  rw [List.pairwise_filterMap]
  refine h.imp fun {a b} hab => ?_
  intro x hx y hy e
  subst e
  cases a <;> simp at hx
  cases b <;> simp at hy
  subst hx hy
  exact hab rfl

/-! ### the specification's levels -/
/-- r tells what the seeds lead to -/
structure IsReach (rows : Nat → List Value) (seeds : List Value) (r : Reach) : Prop where
  os : r.objects.Pairwise (· < ·)
  fs : r.foreigns.Pairwise (· < ·)
  om : ∀ n, n ∈ r.objects ↔ Leads rows seeds (.object n)
  fm : ∀ n, n ∈ r.foreigns ↔ Leads rows seeds (.foreign n)
theorem IsReach.unique {rows : Nat → List Value} {seeds : List Value} {r r' : Reach} (h : IsReach rows seeds r) (h' : IsReach rows seeds r') : r = r' := by
  have e1 : r.objects = r'.objects := sorted_ext h.os h'.os fun x => (h.om x).trans (h'.om x).symm
  have e2 : r.foreigns = r'.foreigns := sorted_ext h.fs h'.fs fun x => (h.fm x).trans (h'.fm x).symm
  cases r
  cases r'
  cases e1
  cases e2
  rfl
theorem IsReach.congr {rows rows' : Nat → List Value} {seeds seeds' : List Value} {r : Reach} (h : IsReach rows seeds r) (e : ∀ v, Leads rows' seeds' v ↔ Leads rows seeds v) : IsReach rows' seeds' r :=
  ⟨h.os, h.fs, fun n => (h.om n).trans (e _).symm, fun n => (h.fm n).trans (e _).symm⟩
theorem mem_eraseDups' {x : Nat} {l : List Nat} : x ∈ l.eraseDups ↔ x ∈ l := List.mem_eraseDups
theorem nodup_eraseDups : ∀ l : List Nat, l.eraseDups.Nodup
  | [] => by simp
  | a :: l => by
    rw [List.eraseDups_cons, List.nodup_cons]
    refine ⟨fun h => ?_, nodup_eraseDups _⟩
    rw [List.mem_eraseDups, List.mem_filter] at h
    simp at h
  termination_by l => l.length
  decreasing_by
    have := List.length_filter_le (fun b => !b == a) l
    simp only [List.length_cons]
    omega
theorem grow_spec (s : State) (seeds : List Value) (U : List Nat) (hU : ∀ n, Leads (fieldsOf s) seeds (.object n) → n ∈ U) :
    ∀ (levels : Nat) (found frontier : List Nat), found.Nodup → (∀ n ∈ found, Leads (fieldsOf s) seeds (.object n)) → (∀ n ∈ frontier, n ∈ found) →
      (∀ n ∈ found, n ∉ frontier → ∀ k, Value.object k ∈ fieldsOf s n → k ∈ found) → U.length < levels + found.length →
      (grow s levels found frontier).Nodup ∧ (∀ n ∈ found, n ∈ grow s levels found frontier) ∧ (∀ n ∈ grow s levels found frontier, Leads (fieldsOf s) seeds (.object n)) ∧
      (∀ n ∈ grow s levels found frontier, ∀ k, Value.object k ∈ fieldsOf s n → k ∈ grow s levels found frontier)
  | 0, found, frontier, hn, hl, hf, hc, hlen => by
    have := len_le_of_subset hn fun n h => hU n (hl n h)
    omega
  | levels + 1, found, [], hn, hl, hf, hc, hlen => ⟨hn, fun _ h => h, hl, fun n h => hc n h (by simp)⟩
  | levels + 1, found, a :: fr, hn, hl, hf, hc, hlen => by
    show (grow s levels (found ++ (((objectsIn ((a :: fr).flatMap (fieldsOf s))).filter fun number => !found.contains number).eraseDups)) (((objectsIn ((a :: fr).flatMap (fieldsOf s))).filter fun number => !found.contains number).eraseDups)).Nodup ∧ _
    rw [show grow s (levels + 1) found (a :: fr) = grow s levels (found ++ (((objectsIn ((a :: fr).flatMap (fieldsOf s))).filter fun number => !found.contains number).eraseDups)) (((objectsIn ((a :: fr).flatMap (fieldsOf s))).filter fun number => !found.contains number).eraseDups) from rfl]
    have hnext : ∀ x, x ∈ (((objectsIn ((a :: fr).flatMap (fieldsOf s))).filter fun number => !found.contains number).eraseDups) ↔ (∃ n ∈ a :: fr, Value.object x ∈ fieldsOf s n) ∧ x ∉ found := by
      intro x
      rw [List.mem_eraseDups, List.mem_filter, mem_objectsIn, List.mem_flatMap]
      simp
    have hnd : (((objectsIn ((a :: fr).flatMap (fieldsOf s))).filter fun number => !found.contains number).eraseDups).Nodup := nodup_eraseDups _
    generalize (((objectsIn ((a :: fr).flatMap (fieldsOf s))).filter fun number => !found.contains number).eraseDups) = next at hnext hnd
    have hn' : (found ++ next).Nodup := by
      rw [List.nodup_append]
      refine ⟨hn, hnd, fun x hx y hy e => ?_⟩
      subst e
      exact ((hnext x).mp hy).2 hx
    have hl' : ∀ n ∈ found ++ next, Leads (fieldsOf s) seeds (.object n) := by
      intro n h
      rcases List.mem_append.mp h with h | h
      · exact hl n h
      · obtain ⟨⟨k, hk, hx⟩, _⟩ := (hnext n).mp h
        exact .step (hl k (hf k hk)) hx (by simp)
    have hc' : ∀ n ∈ found ++ next, n ∉ next → ∀ k, Value.object k ∈ fieldsOf s n → k ∈ found ++ next := by
      intro n h hne k hk
      rcases List.mem_append.mp h with h | h
      · by_cases c : n ∈ a :: fr
        · by_cases d : k ∈ found
          · exact List.mem_append.mpr (.inl d)
          · exact List.mem_append.mpr (.inr ((hnext k).mpr ⟨⟨n, c, hk⟩, d⟩))
        · exact List.mem_append.mpr (.inl (hc n h c k hk))
      · exact absurd h hne
    cases next with
    | nil =>
      rw [List.append_nil] at hn' hl' hc' ⊢
      have e : grow s levels found [] = found := by cases levels <;> rfl
      rw [e]
      exact ⟨hn', fun _ h => h, hl', fun n h => hc' n h (by simp)⟩
    | cons b nx =>
      have := grow_spec s seeds U hU levels (found ++ b :: nx) (b :: nx) hn' hl' (fun n h => List.mem_append.mpr (.inr h)) hc' (by rw [List.length_append, List.length_cons]; omega)
      exact ⟨this.1, fun n h => this.2.1 n (List.mem_append.mpr (.inl h)), this.2.2⟩
theorem reachOf_is (s : State) (seeds : List Value) (hU : ∀ n, Leads (fieldsOf s) seeds (.object n) → exists_ s n = true) : IsReach (fieldsOf s) seeds (reachOf s seeds) := by
  have hU' : ∀ n, Leads (fieldsOf s) seeds (.object n) → n ∈ s.objects.map fun o => o.number := by
    intro n h
    have := hU n h
    unfold exists_ at this
    rw [List.any_eq_true] at this
    obtain ⟨o, ho, e⟩ := this
    exact List.mem_map.mpr ⟨o, ho, by simpa using e⟩
  have hfirst : ∀ n, n ∈ (objectsIn seeds).eraseDups ↔ Value.object n ∈ seeds := fun n => by rw [List.mem_eraseDups, mem_objectsIn]
  obtain ⟨g1, g2, g3, g4⟩ := grow_spec s seeds _ hU' (s.objects.length + 1) _ (objectsIn seeds).eraseDups (nodup_eraseDups _)
    (fun n h => .seed ((hfirst n).mp h) (by simp)) (fun _ h => h) (fun n h c => absurd h c) (by rw [List.length_map]; omega)
  have hobj : ∀ n, n ∈ grow s (s.objects.length + 1) (objectsIn seeds).eraseDups (objectsIn seeds).eraseDups ↔ Leads (fieldsOf s) seeds (.object n) := by
    intro n
    refine ⟨g3 n, fun l => ?_⟩
    generalize hv : Value.object n = v at l
    induction l generalizing n with
    | seed a b =>
      subst hv
      exact g2 n ((hfirst n).mpr a)
    | step l a b ih =>
      subst hv
      exact g4 _ (ih _ rfl) n a
  refine ⟨sorted_sortNumbers _, sorted_sortNumbers _, fun n => mem_sortNumbers.trans (hobj n), fun n => ?_⟩
  rw [show (reachOf s seeds).foreigns = sortNumbers (foreignsIn (seeds ++ (grow s (s.objects.length + 1) (objectsIn seeds).eraseDups (objectsIn seeds).eraseDups).flatMap (fieldsOf s))) from rfl, mem_sortNumbers, mem_foreignsIn, List.mem_append, List.mem_flatMap]
  constructor
  · rintro (h | ⟨k, hk, h⟩)
    · exact .seed h (by simp)
    · exact .step ((hobj k).mp hk) h (by simp)
  · intro l
    generalize hv : Value.foreign n = v at l
    cases l with
    | seed a b =>
      subst hv
      exact .inl a
    | step l a b =>
      subst hv
      exact .inr ⟨_, (hobj _).mpr l, a⟩
/-- as many -/
theorem len_eq {l r : List Nat} (hl : l.Nodup) (hr : r.Nodup) (h : ∀ x, x ∈ l ↔ x ∈ r) : l.length = r.length :=
  Nat.le_antisymm (len_le_of_subset hl fun x hx => (h x).mp hx) (len_le_of_subset hr fun x hx => (h x).mpr hx)
theorem nodup_lt {l : List Nat} (h : l.Pairwise (· < ·)) : l.Nodup := h.imp fun h => Nat.ne_of_lt h
end Sv
end
section
/-! # The mirror and the specification go on alike -/
namespace Sv
open Vbxlaf

theorem sorted_extBy {A : Type} (key : A → Nat) : ∀ {l r : List A}, l.Pairwise (fun a b => key a < key b) → r.Pairwise (fun a b => key a < key b) → (∀ x, x ∈ l ↔ x ∈ r) → l = r
  | [], [], _, _, _ => rfl
  | [], b :: r, _, _, h => by cases (h b).mpr (List.mem_cons_self ..)
  | a :: l, [], _, _, h => by cases (h a).mp (List.mem_cons_self ..)
  | a :: l, b :: r, hl, hr, h => by
    rw [List.pairwise_cons] at hl hr
    have e : a = b := by
      have h1 := (h a).mp (List.mem_cons_self ..)
      have h2 := (h b).mpr (List.mem_cons_self ..)
      rw [List.mem_cons] at h1 h2
      rcases h1 with h1 | h1
      · exact h1
      · rcases h2 with h2 | h2
        · exact h2.symm
        · have := hr.1 a h1
          have := hl.1 b h2
          omega
    subst e
    rw [sorted_extBy key hl.2 hr.2 fun x => ?_]
    constructor
    · intro hx
      have h1 := (h x).mp (List.mem_cons_of_mem _ hx)
      rw [List.mem_cons] at h1
      rcases h1 with h1 | h1
      · have := hl.1 x hx
        subst h1
        omega
      · exact h1
    · intro hx
      have h1 := (h x).mpr (List.mem_cons_of_mem _ hx)
      rw [List.mem_cons] at h1
      rcases h1 with h1 | h1
      · have := hr.1 x hx
        subst h1
        omega
      · exact h1
/-- a table over the numbers 1 .. N -/
theorem tab_sorted {A : Type} (key : A → Nat) (f : Nat → A) (hk : ∀ n, key (f n) = n) (N : Nat) (p : Nat → Bool) : (((nums N).filter p).map f).Pairwise fun a b => key a < key b := by
  rw [List.pairwise_map]
  refine ((nums_lt N).filter p).imp fun {a b} h => ?_
  rw [hk, hk]
  exact h
theorem find_tab {A : Type} (key : A → Nat) (f : Nat → A) (hk : ∀ n, key (f n) = n) (n : Nat) : ∀ l : List Nat, (l.map f).find? (fun o => key o == n) = if n ∈ l then some (f n) else none
  | [] => rfl
  | a :: l => by
    rw [List.map_cons, List.find?_cons, hk]
    by_cases h : a = n
    · subst h
      simp
    · have e : (a == n) = false := beq_eq_false_iff_ne.mpr h
      rw [e]
      show (l.map f).find? (fun o => key o == n) = _
      rw [find_tab key f hk n l]
      have e2 : (n ∈ a :: l) = (n ∈ l) := by
        rw [List.mem_cons, eq_iff_iff]
        constructor
        · rintro (q | q)
          · exact absurd q.symm h
          · exact q
        · exact .inr
      simp only [e2]
theorem any_tab {A : Type} (key : A → Nat) (f : Nat → A) (hk : ∀ n, key (f n) = n) (n : Nat) (l : List Nat) : (l.map f).any (fun o => key o == n) = decide (n ∈ l) := by
  rw [Bool.eq_iff_iff, List.any_eq_true, decide_eq_true_eq]
  constructor
  · rintro ⟨x, hx, e⟩
    obtain ⟨a, ha, rfl⟩ := List.mem_map.mp hx
    rw [hk] at e
    rw [← (beq_iff_eq.mp e)]
    exact ha
  · intro h
    exact ⟨f n, List.mem_map.mpr ⟨n, h, rfl⟩, by rw [hk]; simp⟩

structure R (m : M) (s : State) : Prop where
  objs : s.objects = (objectsNow m).map fun n => ⟨n, m.rows n⟩
  made : s.made = m.made
  slots : s.slots = m.slots
  ents : s.entries = (entriesNow m).map fun n => ⟨n, m.es n⟩
  imps : s.imports = (importsNow m).map fun n => ⟨n, m.im n⟩
  uses : s.uses = m.uses
  survs : s.surveys = m.surveys
  chg : ∀ n, n ∈ s.changed ↔ m.changed n = true
  slc : s.slotsChanged = (m.surveys.isEmpty || m.sc)
  recS : m.surveys ≠ [] → ∀ n, n ∈ s.recordedSlots.objects ↔ n ∈ m.led 0
  recT : areSlotsAffected s = false → IsReach m.rows m.slots s.recordedSlots
  recN : ∀ n, recordedReach s n = none ↔ (m.es n = 0 ∨ m.surveys = [] ∨ m.fresh n = true)
  recE : ∀ n r, recordedReach s n = some r → (∀ x, x ∈ r.objects ↔ x ∈ m.led n) ∧ (isAffected s n = false → IsReach m.rows [.object n] r)

section
variable {m : M} {s : State}
theorem Wf.univ (h : Wf m) {v : Value} (o : okV m v) (ne : v ≠ .nothing) : v ∈ univ := by
  unfold Sv.univ
  rw [List.mem_append, List.mem_map, List.mem_map]
  cases v with
  | nothing => exact absurd rfl ne
  | object n =>
    have := h.lv n o
    have := h.most
    exact .inl ⟨n, mem_nums.mpr (by omega), rfl⟩
  | foreign n => exact .inr ⟨n, mem_nums.mpr (h.imp n o), rfl⟩
theorem Wf.leads (h : Wf m) {seeds : List Value} (hs : ∀ v ∈ seeds, okV m v) {v : Value} (l : Leads m.rows seeds v) : okV m v := by
  cases l with
  | seed a b => exact hs _ a
  | step l a b => exact h.rOk _ _ a
theorem Wf.reached (h : Wf m) {seeds : List Value} (hs : ∀ v ∈ seeds, okV m v) {v : Value} : v ∈ reached m.rows seeds ↔ Leads m.rows seeds v :=
  mem_reached fun _ l => h.univ (h.leads hs l) l.ne
theorem mem_objectsNow (h : Wf m) {n : Nat} : n ∈ objectsNow m ↔ m.living n = true := by
  unfold objectsNow
  rw [List.mem_filter, mem_nums]
  constructor
  · exact fun q => q.2
  · intro q
    have := h.lv n q
    have := h.most
    exact ⟨by omega, q⟩
theorem mem_entriesNow (h : Wf m) {n : Nat} : n ∈ entriesNow m ↔ 0 < m.es n := by
  unfold entriesNow
  rw [List.mem_filter, mem_nums, decide_eq_true_eq]
  constructor
  · exact fun q => q.2
  · intro q
    have := h.lv n (h.ent n q)
    have := h.most
    exact ⟨by omega, q⟩
theorem mem_importsNow (h : Wf m) {n : Nat} : n ∈ importsNow m ↔ 0 < m.im n := by
  unfold importsNow
  rw [List.mem_filter, mem_nums, decide_eq_true_eq]
  exact ⟨fun q => q.2, fun q => ⟨h.imp n q, q⟩⟩
theorem entries_lt (m : M) : (entriesNow m).Pairwise (· < ·) := (nums_lt 40).filter _
theorem Wf.zero (h : Wf m) : m.es 0 = 0 := by
  rcases Nat.eq_zero_or_pos (m.es 0) with e | e
  · exact e
  · have := h.lv 0 (h.ent 0 e)
    omega
theorem Wf.okEntry (h : Wf m) {n : Nat} (e : 0 < m.es n) : ∀ v ∈ [Value.object n], okV m v := by
  intro v hv
  rw [List.mem_singleton] at hv
  subst hv
  exact h.ent n e

theorem R.find (h : R m s) (W : Wf m) (n : Nat) : s.objects.find? (fun object => object.number == n) = if m.living n = true then some ⟨n, m.rows n⟩ else none := by
  rw [h.objs, find_tab (fun o : Object => o.number) (fun n => (⟨n, m.rows n⟩ : Object)) (fun _ => rfl)]
  simp only [mem_objectsNow W]
theorem R.fields (h : R m s) (W : Wf m) : fieldsOf s = m.rows := by
  funext n
  unfold fieldsOf
  rw [h.find W]
  by_cases c : m.living n = true
  · rw [if_pos c]
    rfl
  · rw [if_neg c]
    exact (W.dead n (by simpa using c)).symm
theorem R.exists (h : R m s) (W : Wf m) (n : Nat) : exists_ s n = m.living n := by
  unfold exists_
  rw [h.objs, any_tab (fun o : Object => o.number) (fun n => (⟨n, m.rows n⟩ : Object)) (fun _ => rfl)]
  rw [Bool.eq_iff_iff, decide_eq_true_eq]
  exact mem_objectsNow W
theorem R.entry (h : R m s) (W : Wf m) (n : Nat) : isEntry s n = decide (0 < m.es n) := by
  unfold isEntry
  rw [h.ents, any_tab (fun o : Named => o.number) (fun n => (⟨n, m.es n⟩ : Named)) (fun _ => rfl)]
  simp only [mem_entriesNow W]
theorem R.importIs (h : R m s) (W : Wf m) (n : Nat) : isImport s n = decide (0 < m.im n) := by
  unfold isImport
  rw [h.imps, any_tab (fun o : Named => o.number) (fun n => (⟨n, m.im n⟩ : Named)) (fun _ => rfl)]
  simp only [mem_importsNow W]
theorem R.reach (h : R m s) (W : Wf m) {seeds : List Value} (hs : ∀ v ∈ seeds, okV m v) : IsReach m.rows seeds (reachOf s seeds) := by
  have := reachOf_is s seeds fun n l => by
    rw [h.fields W] at l
    rw [h.exists W]
    exact W.leads hs l
  rw [h.fields W] at this
  exact this
theorem R.slotsReach (h : R m s) (W : Wf m) : IsReach m.rows m.slots (slotsReach s) := by
  unfold Vbxlaf.slotsReach
  rw [h.slots]
  exact h.reach W W.sOk
theorem R.entryReach (h : R m s) (W : Wf m) {n : Nat} (e : 0 < m.es n) : IsReach m.rows [.object n] (entryReach s n) := h.reach W (W.okEntry e)

/-! ### what is affected -/
theorem any_contains {l : List Nat} {k : List Nat} {c : Nat → Bool} {d : List Nat} (hl : ∀ x, x ∈ k ↔ x ∈ l) (hd : ∀ x, x ∈ d ↔ c x = true) : d.any k.contains = l.any c := by
  rw [Bool.eq_iff_iff, List.any_eq_true, List.any_eq_true]
  constructor
  · rintro ⟨x, h1, h2⟩
    exact ⟨x, (hl x).mp (by simpa using h2), (hd x).mp h1⟩
  · rintro ⟨x, h1, h2⟩
    exact ⟨x, (hd x).mpr h2, by simpa using (hl x).mpr h1⟩
theorem R.aff0 (h : R m s) : areSlotsAffected s = affM m 0 := by
  unfold areSlotsAffected affM
  rw [h.slc]
  by_cases e : m.surveys = []
  · simp [e]
  · rw [any_contains (h.recS e) h.chg]
    simp
theorem R.affE (h : R m s) (W : Wf m) {n : Nat} (e : 0 < m.es n) : isAffected s n = affM m n := by
  have n0 : n ≠ 0 := by
    intro q
    subst q
    rw [W.zero] at e
    exact absurd e (Nat.lt_irrefl 0)
  unfold isAffected affM
  cases q : recordedReach s n with
  | none =>
    rcases (h.recN n).mp q with c | c | c
    · omega
    · simp [c]
    · simp [c, n0]
  | some r =>
    have nn : ¬ (m.es n = 0 ∨ m.surveys = [] ∨ m.fresh n = true) := fun z => by
      rw [(h.recN n).mpr z] at q
      cases q
    have h1 : m.surveys.isEmpty = false := by
      cases z : m.surveys with
      | nil => exact absurd (.inr (.inl z)) nn
      | cons a b => rfl
    have h2 : m.fresh n = false := by
      cases z : m.fresh n with
      | false => rfl
      | true => exact absurd (.inr (.inr z)) nn
    show s.changed.any r.objects.contains = _
    rw [any_contains (h.recE n r q).1 h.chg, h1, h2]
    simp [n0]
theorem R.updS (h : R m s) (W : Wf m) : IsReach m.rows m.slots (updatedSlots s) := by
  unfold updatedSlots
  split
  · exact h.slotsReach W
  · rename_i c
    exact h.recT (by simpa using c)
def updE (s : State) (n : Nat) : Reach := if isAffected s n = true then entryReach s n else (recordedReach s n).getD ⟨[], []⟩
theorem R.updE (h : R m s) (W : Wf m) {n : Nat} (e : 0 < m.es n) : IsReach m.rows [.object n] (updE s n) := by
  unfold Sv.updE
  split
  · exact h.entryReach W e
  · rename_i c
    cases q : recordedReach s n with
    | none =>
      exfalso
      apply c
      unfold isAffected
      rw [q]
    | some r => exact (h.recE n r q).2 (by simpa using c)
theorem R.updEs (h : R m s) : updatedEntries s = (entriesNow m).map fun n => (n, Sv.updE s n) := by
  unfold updatedEntries
  rw [h.ents, List.map_map]
  rfl

/-! ### lines and work -/
theorem IsReach.lead {rows : Nat → List Value} {seeds : List Value} {r : Reach} (h : IsReach rows seeds r) {name : Name} (hk : name.kind = 1 ∨ name.kind = 2) : leadsTo r name = true ↔ Leads rows seeds (valueOf name) := by
  unfold leadsTo valueOf
  rcases hk with e | e
  · rw [if_pos e, if_pos e]
    simpa using h.om name.number
  · have e1 : ¬ name.kind = 1 := by omega
    rw [if_neg e1, if_neg e1]
    simpa using h.fm name.number
theorem ledBy0 (W : Wf m) {v : Value} : v ∈ ledBy m 0 ↔ Leads m.rows m.slots v := by
  show v ∈ Sv.reached m.rows m.slots ↔ _
  exact W.reached W.sOk
theorem ledByE (W : Wf m) {n : Nat} (e : 0 < m.es n) {v : Value} : v ∈ ledBy m n ↔ Leads m.rows [.object n] v := by
  have n0 : n ≠ 0 := by
    intro q
    subst q
    rw [W.zero] at e
    exact absurd e (Nat.lt_irrefl 0)
  unfold ledBy
  rw [if_neg n0]
  exact W.reached (W.okEntry e)
theorem surveyed (h : R m s) : surveyedNames s = (namesNow m).map fun name => (name, stampM m name) := by
  unfold surveyedNames namesNow
  rw [h.ents, h.imps, List.map_append, List.map_map, List.map_map, List.map_map, List.map_map]
  rfl
theorem names_kind {name : Name} (h : name ∈ namesNow m) : name.kind = 1 ∨ name.kind = 2 := by
  unfold namesNow at h
  rw [List.mem_append, List.mem_map, List.mem_map] at h
  rcases h with ⟨_, _, rfl⟩ | ⟨_, _, rfl⟩
  · exact .inl rfl
  · exact .inr rfl
theorem lines_eq (h : R m s) (W : Wf m) {sl : Reach} {er : Nat → Reach} (hs : IsReach m.rows m.slots sl) (he : ∀ n, 0 < m.es n → IsReach m.rows [.object n] (er n)) :
    (surveyedNames s).map (lineOf sl ((entriesNow m).map fun n => (n, er n))) = linesNow m := by
  rw [surveyed h, List.map_map]
  refine List.map_congr_left fun name hn => ?_
  have hk := names_kind hn
  show lineOf sl _ (name, stampM m name) = lineM m name
  unfold lineOf lineM
  have e1 : leadsTo sl name = decide (valueOf name ∈ ledBy m 0) := by
    rw [Bool.eq_iff_iff, decide_eq_true_eq, hs.lead hk, ledBy0 W]
  have e2 : (((entriesNow m).map fun n => (n, er n)).filter fun entry => (name.kind != 1 || name.number != entry.1) && leadsTo entry.2 name).map (fun entry => entry.1) =
      (entriesNow m).filter fun n => decide (Value.object n ≠ valueOf name) && decide (valueOf name ∈ ledBy m n) := by
    rw [List.filter_map, List.map_map]
    rw [show ((fun entry : Nat × Reach => entry.1) ∘ fun n => (n, er n)) = id from rfl, List.map_id]
    refine List.filter_congr fun n hn => ?_
    have en := (mem_entriesNow W).mp hn
    show ((name.kind != 1 || name.number != n) && leadsTo (er n) name) = _
    have a1 : leadsTo (er n) name = decide (valueOf name ∈ ledBy m n) := by
      rw [Bool.eq_iff_iff, decide_eq_true_eq, (he n en).lead hk, ledByE W en]
    rw [a1]
    congr 1
    unfold valueOf
    rcases hk with e | e
    · rw [if_pos e, e, Bool.eq_iff_iff, decide_eq_true_eq]
      simp
      exact ⟨fun q z => q z.symm, fun q z => q z.symm⟩
    · have e1 : ¬ name.kind = 1 := by omega
      rw [if_neg e1, e]
      simp
  simp only [e1, e2]
theorem scratch_eq (h : R m s) (W : Wf m) : scratchLines s = linesNow m := by
  have := lines_eq h W (h.slotsReach W) (er := fun n => entryReach s n) fun n e => h.entryReach W e
  rw [← this]
  unfold scratchLines
  rw [h.ents, List.map_map]
  rfl
theorem objectsLed_len {n : Nat} {seeds : List Value} {r : Reach} (hl : ∀ v, v ∈ ledBy m n ↔ Leads m.rows seeds v) (hr : IsReach m.rows seeds r) (nd : (ledBy m n).Nodup) : r.objects.length = (objectsLed m n).length :=
  len_eq (nodup_lt hr.os) (nodup_objectsIn nd) fun x => by
    unfold objectsLed
    rw [mem_objectsIn, hl, hr.om]
theorem ledBy_nodup (m : M) (n : Nat) : (ledBy m n).Nodup := by
  unfold ledBy
  split <;> exact reached_nodup
theorem foldl_shift (g : Nat → Nat) : ∀ (l : List Nat) (a : Nat), l.foldl (fun a x => a + g x) a = a + l.foldl (fun a x => a + g x) 0
  | [], _ => rfl
  | x :: l, a => by
    rw [List.foldl_cons, List.foldl_cons, foldl_shift g l (a + g x), foldl_shift g l (0 + g x)]
    omega
theorem affE_list (h : R m s) (W : Wf m) : (s.entries.filter fun entry => isAffected s entry.number).map (fun entry => entry.number) = (entriesNow m).filter (affM m) := by
  rw [h.ents, List.filter_map, List.map_map]
  rw [show ((fun entry : Named => entry.number) ∘ fun n => (⟨n, m.es n⟩ : Named)) = id from rfl, List.map_id]
  refine List.filter_congr fun n hn => ?_
  exact h.affE W ((mem_entriesNow W).mp hn)
theorem foldl_congr_mem {g g' : Nat → Nat} : ∀ (l : List Nat), (∀ x ∈ l, g x = g' x) → ∀ a : Nat, l.foldl (fun a x => a + g x) a = l.foldl (fun a x => a + g' x) a
  | [], _, _ => rfl
  | x :: l, h, a => by
    rw [List.foldl_cons, List.foldl_cons, h x (List.mem_cons_self ..)]
    exact foldl_congr_mem l (fun y hy => h y (List.mem_cons_of_mem _ hy)) _
theorem work_eq (h : R m s) (W : Wf m) : lookedAt s = workNow m := by
  unfold lookedAt workNow affectedNow sourcesNow
  have e1 : ((s.entries.filter fun entry => isAffected s entry.number).map fun entry => (entryReach s entry.number).objects.length).foldl (fun a b => a + b) 0 =
      ((entriesNow m).filter (affM m)).foldl (fun a n => a + (objectsLed m n).length) 0 := by
    have : ((s.entries.filter fun entry => isAffected s entry.number).map fun entry => (entryReach s entry.number).objects.length) =
        (((s.entries.filter fun entry => isAffected s entry.number).map (fun entry => entry.number)).map fun n => (entryReach s n).objects.length) := by
      rw [List.map_map]
      rfl
    rw [this, affE_list h W, List.foldl_map]
    refine foldl_congr_mem _ (fun n hn => ?_) 0
    have en := (mem_entriesNow W).mp (List.mem_filter.mp hn).1
    exact objectsLed_len (fun v => ledByE W en) (h.entryReach W en) (ledBy_nodup m n)
  rw [e1, List.filter_cons, h.aff0]
  by_cases c : affM m 0 = true
  · rw [if_pos c, if_pos c, List.foldl_cons, foldl_shift (fun n => (objectsLed m n).length) _ (0 + _)]
    rw [objectsLed_len (fun v => ledBy0 W) (h.slotsReach W) (ledBy_nodup m 0)]
    omega
  · rw [if_neg c, if_neg c]
    omega
theorem affected_eq (h : R m s) (W : Wf m) : affEntries m = (s.entries.filter fun entry => isAffected s entry.number).map (fun entry => entry.number) := by
  rw [affE_list h W]
  unfold affEntries affectedNow sourcesNow
  rw [List.filter_filter, List.filter_cons]
  rw [if_neg (by simp)]
  refine List.filter_congr fun n hn => ?_
  have en := (mem_entriesNow W).mp hn
  have : n ≠ 0 := by
    intro q
    subst q
    rw [W.zero] at en
    exact absurd en (Nat.lt_irrefl 0)
  simp [this]
theorem aff0_eq (h : R m s) (W : Wf m) : decide (0 ∈ affectedNow m) = areSlotsAffected s := by
  rw [h.aff0, Bool.eq_iff_iff, decide_eq_true_eq]
  unfold affectedNow sourcesNow
  rw [List.mem_filter]
  simp
end
end Sv
end
section
/-! # The operations that change the state -/
namespace Sv
open Vbxlaf

structure Good (a : M × List Int) (b : State × List Int) : Prop where
  out : a.2 = b.2
  rel : R a.1 b.1
  wf : Wf a.1
theorem fail_good {m : M} {s : State} (h : R m s) (W : Wf m) (c : Int) : Good (m, [c]) (fail s c) := ⟨rfl, h, W⟩

theorem inR (z : Int) (a b : Nat) : inRange z a b = (decide ((a : Int) ≤ z) && decide (z ≤ (b : Int))) := rfl
theorem slot_eq (z : Int) : Vbxlaf.isSlot z = slotOk z := by
  show (decide (((0 : Nat) : Int) ≤ z) && decide (z ≤ ((5 : Nat) : Int))) = (decide (0 ≤ z) && decide (z < 6))
  rw [Bool.eq_iff_iff, Bool.and_eq_true, Bool.and_eq_true, decide_eq_true_eq, decide_eq_true_eq, decide_eq_true_eq, decide_eq_true_eq]
  omega
theorem count_eq (z : Int) : inRange z 0 maxFields = countOk z := rfl
theorem field_eq (z : Int) : inRange z 0 (maxFields - 1) = fieldOk z := by
  show (decide (((0 : Nat) : Int) ≤ z) && decide (z ≤ ((3 : Nat) : Int))) = (decide (0 ≤ z) && decide (z < 4))
  rw [Bool.eq_iff_iff, Bool.and_eq_true, Bool.and_eq_true, decide_eq_true_eq, decide_eq_true_eq, decide_eq_true_eq, decide_eq_true_eq]
  omega
theorem foreign_eq (z : Int) : inRange z 1 maxForeign = foreignOk z := rfl
theorem kind_eq (z : Int) : inRange z 1 2 = kindOk z := by
  show (decide (((1 : Nat) : Int) ≤ z) && decide (z ≤ ((2 : Nat) : Int))) = (decide (z = 1) || decide (z = 2))
  rw [Bool.eq_iff_iff, Bool.and_eq_true, Bool.or_eq_true, decide_eq_true_eq, decide_eq_true_eq, decide_eq_true_eq, decide_eq_true_eq]
  omega
theorem slotOk_iff {z : Int} : slotOk z = true ↔ 0 ≤ z ∧ z < 6 := by
  unfold slotOk
  rw [Bool.and_eq_true, decide_eq_true_eq, decide_eq_true_eq]
theorem mem_set {A : Type} {l : List A} {i : Nat} {v x : A} (h : x ∈ l.set i v) : x = v ∨ x ∈ l := by
  rcases List.mem_or_eq_of_mem_set h with h | h
  · exact .inr h
  · exact .inl h
theorem getD_mem {A : Type} {l : List A} {i : Nat} {d : A} (h : i < l.length) : l.getD i d ∈ l := by
  rw [List.getD_eq_getElem?_getD, List.getElem?_eq_getElem h]
  exact List.getElem_mem h
theorem set_getD {A : Type} {l : List A} {i : Nat} {d v : A} (h : l.getD i d = v) : l.set i v = l := by
  rcases Nat.lt_or_ge i l.length with c | c
  · rw [List.getD_eq_getElem?_getD, List.getElem?_eq_getElem c] at h
    have h' : l[i] = v := h
    rw [← h']
    exact List.set_getElem_self c
  · exact List.set_eq_of_length_le c

section
variable {m : M} {s : State}
theorem okV_slot (W : Wf m) (z : Int) : okV m (slotV m z) := by
  unfold slotV
  rcases Nat.lt_or_ge z.toNat m.slots.length with c | c
  · exact W.sOk _ (getD_mem c)
  · rw [List.getD_eq_getElem?_getD, List.getElem?_eq_none c]
    exact True.intro
/-! ### a slot gets a value -/
theorem okV_put {m : M} {i : Nat} {v x : Value} : okV (put m i v) x ↔ okV m x := by
  cases x <;> exact Iff.rfl
theorem Wf.put (W : Wf m) {v : Value} (o : okV m v) (i : Nat) : Wf (put m i v) where
  six := by
    show (m.slots.set i v).length = 6
    rw [List.length_set]
    exact W.six
  most := W.most
  lv := W.lv
  dead := W.dead
  four := W.four
  ent := W.ent
  imp := W.imp
  sOk := fun x hx => okV_put.mpr (by
    rcases mem_set hx with rfl | hx
    · exact o
    · exact W.sOk x hx)
  rOk := fun n x hx => okV_put.mpr (W.rOk n x hx)
  ledOk := W.ledOk
  surv := W.surv
  lns := W.lns
theorem slotAt_eq (h : R m s) (z : Int) : slotAt s z = slotV m z := by
  unfold slotAt slotV
  rw [h.slots]
theorem R.put (h : R m s) (z : Int) (v : Value) : R (put m z.toNat v) (setSlot s z v) where
  objs := h.objs
  made := h.made
  slots := by
    show s.slots.set z.toNat v = m.slots.set z.toNat v
    rw [h.slots]
  ents := h.ents
  imps := h.imps
  uses := h.uses
  survs := h.survs
  chg := h.chg
  slc := by
    show (s.slotsChanged || slotAt s z != v) = (m.surveys.isEmpty || (m.sc || decide (m.slots.getD z.toNat .nothing ≠ v)))
    rw [h.slc, slotAt_eq h, Bool.or_assoc]
    congr 2
    rw [Bool.eq_iff_iff, bne_iff_ne, decide_eq_true_eq]
    exact Iff.rfl
  recS := h.recS
  recT := fun c => by
    have c' : ((s.slotsChanged || slotAt s z != v) || s.changed.any s.recordedSlots.objects.contains) = false := c
    rw [Bool.or_eq_false_iff, Bool.or_eq_false_iff] at c'
    have e : slotAt s z = v := by simpa using c'.1.2
    have := h.recT (by unfold areSlotsAffected; rw [c'.1.1, c'.2]; rfl)
    show IsReach m.rows (m.slots.set z.toNat v) s.recordedSlots
    rw [set_getD (d := .nothing) (by rw [slotAt_eq h] at e; exact e)]
    exact this
  recN := h.recN
  recE := h.recE

/-! ### create -/
theorem living_make {n : Nat} {fc : Nat} : (makeM m fc).living n = true ↔ n = m.made + 1 ∨ m.living n = true := by
  show fset m.living (m.made + 1) true n = true ↔ _
  unfold fset
  split
  · rename_i e
    simp [e]
  · rename_i e
    simp [e]
theorem okV_make {fc : Nat} {x : Value} (o : okV m x) : okV (makeM m fc) x := by
  cases x with
  | nothing => exact o
  | object n => exact living_make.mpr (.inr o)
  | foreign n => exact o
theorem Wf.make (W : Wf m) (c : ¬ 40 ≤ m.made) {fc : Nat} (hf : fc ≤ 4) : Wf (makeM m fc) where
  six := W.six
  most := by
    show m.made + 1 ≤ 40
    omega
  lv := fun n hn => by
    show 1 ≤ n ∧ n ≤ m.made + 1
    rcases living_make.mp hn with e | e
    · omega
    · have := W.lv n e
      omega
  dead := fun n hn => by
    have e1 : n ≠ m.made + 1 := fun e => by
      rw [living_make.mpr (.inl e)] at hn
      cases hn
    show fset m.rows (m.made + 1) (List.replicate fc .nothing) n = []
    rw [fset_ne e1]
    exact W.dead n (by
      cases q : m.living n with
      | false => rfl
      | true =>
        rw [living_make.mpr (.inr q)] at hn
        cases hn)
  four := fun n => by
    show (fset m.rows (m.made + 1) (List.replicate fc .nothing) n).length ≤ 4
    unfold fset
    split
    · rw [List.length_replicate]
      exact hf
    · exact W.four n
  ent := fun n hn => living_make.mpr (.inr (W.ent n hn))
  imp := W.imp
  sOk := fun x hx => okV_make (W.sOk x hx)
  rOk := fun n x hx => by
    have hx' : x ∈ fset m.rows (m.made + 1) (List.replicate fc .nothing) n := hx
    unfold fset at hx'
    split at hx'
    · rw [(List.mem_replicate.mp hx').2]
      exact True.intro
    · exact okV_make (W.rOk n x hx')
  ledOk := W.ledOk
  surv := W.surv
  lns := W.lns
theorem new_dead (W : Wf m) : m.living (m.made + 1) = false := by
  cases q : m.living (m.made + 1) with
  | false => rfl
  | true =>
    have := W.lv _ q
    omega
theorem leads_make (W : Wf m) {seeds : List Value} (hs : ∀ v ∈ seeds, okV m v) (fc : Nat) (v : Value) : Leads (makeM m fc).rows seeds v ↔ Leads m.rows seeds v :=
  leads_congr (fun n l => by
    show fset m.rows (m.made + 1) (List.replicate fc .nothing) n = m.rows n
    refine fset_ne fun e => ?_
    have := W.leads hs l
    rw [e] at this
    have h2 : m.living (m.made + 1) = true := this
    rw [new_dead W] at h2
    cases h2) v
def newS (s : State) (fc : Nat) : State := { s with objects := s.objects ++ [⟨s.made + 1, List.replicate fc .nothing⟩], made := s.made + 1 }
theorem R.make (h : R m s) (W : Wf m) (c : ¬ 40 ≤ m.made) (fc : Nat) : R (makeM m fc) (newS s fc) where
  objs := by
    show s.objects ++ [⟨s.made + 1, List.replicate fc .nothing⟩] = (objectsNow (makeM m fc)).map fun n => ⟨n, (makeM m fc).rows n⟩
    rw [h.objs, h.made]
    refine sorted_extBy (fun o : Object => o.number) ?_ (tab_sorted (fun o : Object => o.number) _ (fun _ => rfl) 40 _) fun x => ?_
    · rw [List.pairwise_append]
      refine ⟨tab_sorted (fun o : Object => o.number) _ (fun _ => rfl) 40 _, List.pairwise_singleton _ _, fun a ha b hb => ?_⟩
      rw [List.mem_singleton] at hb
      subst hb
      obtain ⟨n, hn, rfl⟩ := List.mem_map.mp ha
      have := W.lv n ((mem_objectsNow W).mp hn)
      show n < m.made + 1
      omega
    · rw [List.mem_append, List.mem_singleton, List.mem_map, List.mem_map]
      constructor
      · rintro (⟨n, hn, rfl⟩ | rfl)
        · have ln := (mem_objectsNow W).mp hn
          have := W.lv n ln
          refine ⟨n, ?_, ?_⟩
          · unfold objectsNow at hn ⊢
            rw [List.mem_filter] at hn ⊢
            exact ⟨hn.1, living_make.mpr (.inr ln)⟩
          · show (⟨n, fset m.rows (m.made + 1) (List.replicate fc .nothing) n⟩ : Object) = _
            rw [fset_ne (by omega)]
        · refine ⟨m.made + 1, ?_, ?_⟩
          · unfold objectsNow
            rw [List.mem_filter, mem_nums]
            exact ⟨by omega, living_make.mpr (.inl rfl)⟩
          · show (⟨m.made + 1, fset m.rows (m.made + 1) (List.replicate fc .nothing) (m.made + 1)⟩ : Object) = _
            rw [fset_same]
      · rintro ⟨n, hn, rfl⟩
        unfold objectsNow at hn
        rw [List.mem_filter] at hn
        rcases living_make.mp hn.2 with e | e
        · subst e
          right
          show (⟨m.made + 1, fset m.rows (m.made + 1) (List.replicate fc .nothing) (m.made + 1)⟩ : Object) = _
          rw [fset_same]
        · left
          have := W.lv n e
          refine ⟨n, (mem_objectsNow W).mpr e, ?_⟩
          show _ = (⟨n, fset m.rows (m.made + 1) (List.replicate fc .nothing) n⟩ : Object)
          rw [fset_ne (by omega)]
  made := by
    show s.made + 1 = m.made + 1
    rw [h.made]
  slots := h.slots
  ents := h.ents
  imps := h.imps
  uses := h.uses
  survs := h.survs
  chg := h.chg
  slc := h.slc
  recS := h.recS
  recT := fun q => (h.recT q).congr (leads_make W W.sOk fc)
  recN := h.recN
  recE := fun n r e => by
    have e' : recordedReach s n = some r := e
    refine ⟨(h.recE n r e').1, fun q => ((h.recE n r e').2 q).congr (leads_make W (W.okEntry ?_) fc)⟩
    rcases Nat.eq_zero_or_pos (m.es n) with z | z
    · rw [(h.recN n).mpr (.inl z)] at e'
      cases e'
    · exact z
theorem rec_pos (h : R m s) {n : Nat} {r : Reach} (e : recordedReach s n = some r) : 0 < m.es n := by
  rcases Nat.eq_zero_or_pos (m.es n) with z | z
  · rw [(h.recN n).mpr (.inl z)] at e
    cases e
  · exact z
theorem good_create (h : R m s) (W : Wf m) (slot fc : Int) : Good (opCreate m slot fc) (step s (.create slot fc)) := by
  unfold opCreate
  show Good _ (if (Vbxlaf.isSlot slot && inRange fc 0 maxFields) = false then fail s (-1) else if maxObjects ≤ s.made then fail s (-8) else _)
  rw [slot_eq, count_eq, h.made]
  by_cases c : (slotOk slot && countOk fc) = false
  · rw [if_pos c, if_pos c]
    exact fail_good h W _
  · rw [if_neg c, if_neg c]
    by_cases d : 40 ≤ m.made
    · rw [if_pos d, if_pos (show maxObjects ≤ m.made from d)]
      exact fail_good h W _
    · rw [if_neg d, if_neg (show ¬ maxObjects ≤ m.made from d)]
      have hf : fc.toNat ≤ 4 := by
        have : slotOk slot = true ∧ countOk fc = true := by simpa using c
        have := this.2
        unfold countOk at this
        rw [Bool.and_eq_true, decide_eq_true_eq, decide_eq_true_eq] at this
        omega
      have h1 := R.put (h.make W d fc.toNat) slot (.object (m.made + 1))
      refine ⟨rfl, ?_, (W.make d hf).put (v := .object (m.made + 1)) (living_make.mpr (.inl rfl)) _⟩
      have e : newS s fc.toNat = { s with objects := s.objects ++ [⟨m.made + 1, List.replicate fc.toNat .nothing⟩], made := m.made + 1 } := by
        unfold newS
        rw [h.made]
      rw [e] at h1
      exact h1
theorem good_copy (h : R m s) (W : Wf m) (t z : Int) : Good (opCopy m t z) (step s (.copy t z)) := by
  unfold opCopy
  show Good _ (if (Vbxlaf.isSlot t && Vbxlaf.isSlot z) = false then fail s (-1) else (setSlot s t (slotAt s z), [0]))
  rw [slot_eq, slot_eq, slotAt_eq h]
  by_cases c : (slotOk t && slotOk z) = false
  · rw [if_pos c, if_pos c]
    exact fail_good h W _
  · rw [if_neg c, if_neg c]
    exact ⟨rfl, h.put t _, W.put (okV_slot W z) _⟩
theorem good_clear (h : R m s) (W : Wf m) (z : Int) : Good (opClear m z) (step s (.clear z)) := by
  unfold opClear
  show Good _ (if Vbxlaf.isSlot z = false then fail s (-1) else (setSlot s z .nothing, [0]))
  rw [slot_eq]
  by_cases c : slotOk z = false
  · rw [if_pos c, if_pos c]
    exact fail_good h W _
  · rw [if_neg c, if_neg c]
    exact ⟨rfl, h.put z _, W.put (v := .nothing) True.intro _⟩
/-! ### read and write -/
theorem withField_eq (h : R m s) (W : Wf m) {z f : Int} (hf : fieldOk f = true) (run : Nat → Value → State × List Int) :
    withField s z f run = if fieldFault m z f ≠ 0 then fail s (fieldFault m z f) else run (numN (slotV m z)) ((m.rows (numN (slotV m z))).getD f.toNat .nothing) := by
  have hf' : 0 ≤ f := by
    unfold fieldOk at hf
    rw [Bool.and_eq_true, decide_eq_true_eq, decide_eq_true_eq] at hf
    exact hf.1
  unfold withField fieldFault
  rw [slotAt_eq h]
  cases slotV m z with
  | nothing => rfl
  | foreign n => rfl
  | object n =>
    show (match (fieldsOf s n)[f.toNat]? with | none => fail s (-5) | some value => run n value) = _
    rw [h.fields W]
    show _ = if (if ((m.rows n).length : Int) ≤ f then (-5 : Int) else 0) ≠ 0 then fail s (if ((m.rows n).length : Int) ≤ f then (-5 : Int) else 0) else run n ((m.rows n).getD f.toNat .nothing)
    by_cases c : ((m.rows n).length : Int) ≤ f
    · rw [if_pos c, if_pos (by decide), List.getElem?_eq_none (by omega)]
    · rw [if_neg c, if_neg (by decide), List.getD_eq_getElem?_getD, List.getElem?_eq_getElem (by omega)]
      rfl
theorem good_read (h : R m s) (W : Wf m) (t z f : Int) : Good (opRead m t z f) (step s (.read t z f)) := by
  unfold opRead
  show Good _ (if (Vbxlaf.isSlot t && (Vbxlaf.isSlot z && inRange f 0 (maxFields - 1))) = false then fail s (-1) else withField s z f fun _ value => (setSlot s t value, valueCode value))
  rw [slot_eq, slot_eq, field_eq]
  by_cases c : (slotOk t && (slotOk z && fieldOk f)) = false
  · rw [if_pos c, if_pos c]
    exact fail_good h W _
  · rw [if_neg c, if_neg c]
    have hc : slotOk t = true ∧ slotOk z = true ∧ fieldOk f = true := by simpa using c
    rw [withField_eq h W hc.2.2]
    by_cases d : fieldFault m z f ≠ 0
    · rw [if_pos d, if_pos d]
      exact fail_good h W _
    · rw [if_neg d, if_neg d]
      refine ⟨?_, h.put t _, W.put ?_ _⟩
      · show pairI _ = valueCode _
        cases (m.rows (numN (slotV m z))).getD f.toNat .nothing <;> rfl
      · rcases Nat.lt_or_ge f.toNat (m.rows (numN (slotV m z))).length with e | e
        · exact W.rOk _ _ (getD_mem e)
        · rw [List.getD_eq_getElem?_getD, List.getElem?_eq_none e]
          exact True.intro
theorem Wf.field (W : Wf m) (n f : Nat) {v : Value} (o : okV m v) (hv : m.living n = true) : Wf (changeField m n f v).1 := by
  unfold changeField
  split
  · refine ⟨W.six, W.most, W.lv, fun k hk => ?_, fun k => ?_, W.ent, W.imp, ?_, fun k x hx => ?_, W.ledOk, W.surv, W.lns⟩
    · show fset m.rows n ((m.rows n).set f v) k = []
      have : k ≠ n := by
        intro e
        subst e
        have hk' : m.living k = false := hk
        rw [hv] at hk'
        cases hk'
      rw [fset_ne this]
      exact W.dead k hk
    · show (fset m.rows n ((m.rows n).set f v) k).length ≤ 4
      unfold fset
      split
      · rw [List.length_set]
        exact W.four n
      · exact W.four k
    · intro x hx
      have := W.sOk x hx
      cases x <;> exact this
    · have hx' : x ∈ fset m.rows n ((m.rows n).set f v) k := hx
      have : okV m x := by
        unfold fset at hx'
        split at hx'
        · rcases mem_set hx' with rfl | e
          · exact o
          · exact W.rOk n x e
        · exact W.rOk k x hx'
      cases x <;> exact this
  · exact W
theorem chg_insert {l : List Nat} {c : Nat → Bool} (h : ∀ x, x ∈ l ↔ c x = true) (n : Nat) (x : Nat) : x ∈ insertNumber n l ↔ fset c n true x = true := by
  rw [mem_insertNumber, h]
  unfold fset
  split
  · rename_i e
    simp [e]
  · rename_i e
    simp [e]
def wroteS (s : State) (n f : Nat) (v : Value) : State :=
  { s with objects := s.objects.map fun object => if object.number = n then { object with fields := object.fields.set f v } else object, changed := insertNumber n s.changed }
theorem any_insert {n : Nat} {l : List Nat} {p : Nat → Bool} (h : (insertNumber n l).any p = false) : p n = false ∧ l.any p = false := by
  rw [List.any_eq_false] at h
  refine ⟨by simpa using h n (mem_insertNumber.mpr (.inl rfl)), ?_⟩
  rw [List.any_eq_false]
  exact fun x hx => h x (mem_insertNumber.mpr (.inr hx))
theorem leads_write {n f : Nat} {v : Value} {seeds : List Value} (c : ¬ Leads m.rows seeds (.object n)) (x : Value) : Leads (fset m.rows n ((m.rows n).set f v)) seeds x ↔ Leads m.rows seeds x :=
  leads_congr (fun k l => fset_ne fun e => c (by rw [← e]; exact l)) x
theorem R.wrote (h : R m s) (W : Wf m) {n f : Nat} {v : Value} (c : (m.rows n).getD f .nothing ≠ v) : R (changeField m n f v).1 (wroteS s n f v) := by
  unfold changeField
  rw [if_pos c]
  exact {
    objs := by
      show (s.objects.map fun object => if object.number = n then { object with fields := object.fields.set f v } else object) = (objectsNow m).map fun k => ⟨k, fset m.rows n ((m.rows n).set f v) k⟩
      rw [h.objs, List.map_map]
      refine List.map_congr_left fun k hk => ?_
      show (if k = n then (⟨k, (m.rows k).set f v⟩ : Object) else ⟨k, m.rows k⟩) = ⟨k, if k = n then (m.rows n).set f v else m.rows k⟩
      by_cases e : k = n
      · subst e
        rw [if_pos rfl, if_pos rfl]
      · rw [if_neg e, if_neg e]
    made := h.made
    slots := h.slots
    ents := h.ents
    imps := h.imps
    uses := h.uses
    survs := h.survs
    chg := chg_insert h.chg n
    slc := h.slc
    recS := h.recS
    recT := fun q => by
      have q' : (s.slotsChanged || (insertNumber n s.changed).any s.recordedSlots.objects.contains) = false := q
      rw [Bool.or_eq_false_iff] at q'
      obtain ⟨q1, q2⟩ := any_insert q'.2
      have r := h.recT (by unfold areSlotsAffected; rw [q'.1, q2]; rfl)
      refine r.congr (leads_write fun l => ?_)
      have := (r.om n).mpr l
      simp at q1
      exact q1 this
    recN := h.recN
    recE := fun k r e => by
      have e' : recordedReach s k = some r := e
      refine ⟨(h.recE k r e').1, fun q => ?_⟩
      have q' : (match recordedReach s k with | none => true | some reach => (insertNumber n s.changed).any reach.objects.contains) = false := q
      rw [e'] at q'
      obtain ⟨q1, q2⟩ := any_insert q'
      have r' := (h.recE k r e').2 (by unfold isAffected; rw [e']; exact q2)
      refine r'.congr (leads_write fun l => ?_)
      have := (r'.om n).mpr l
      simp at q1
      exact q1 this }
theorem fault_living (h : R m s) (W : Wf m) {z f : Int} (hf : fieldOk f = true) (d : ¬ fieldFault m z f ≠ 0) : ∃ n, slotV m z = .object n ∧ f.toNat < (m.rows n).length ∧ m.living n = true := by
  have hf' : 0 ≤ f := by
    unfold fieldOk at hf
    rw [Bool.and_eq_true, decide_eq_true_eq, decide_eq_true_eq] at hf
    exact hf.1
  unfold fieldFault at d
  have o := okV_slot W z
  cases e : slotV m z with
  | nothing =>
    rw [e] at d
    exact absurd (show (-3 : Int) ≠ 0 by decide) d
  | foreign n =>
    rw [e] at d
    exact absurd (show (-3 : Int) ≠ 0 by decide) d
  | object n =>
    rw [e] at d o
    refine ⟨n, rfl, ?_, o⟩
    have d' : ¬ (if ((m.rows n).length : Int) ≤ f then (-5 : Int) else 0) ≠ 0 := d
    by_cases c : ((m.rows n).length : Int) ≤ f
    · rw [if_pos c] at d'
      exact absurd (by decide) d'
    · omega
theorem good_write (h : R m s) (W : Wf m) (t f z : Int) : Good (opWrite m t f z) (step s (.write t f z)) := by
  unfold opWrite
  show Good _ (if (Vbxlaf.isSlot t && (Vbxlaf.isSlot z && inRange f 0 (maxFields - 1))) = false then fail s (-1) else withField s t f fun number old => if slotAt s z = old then (s, [0]) else (wroteS s number f.toNat (slotAt s z), [1]))
  rw [slot_eq, slot_eq, field_eq, Bool.and_comm (slotOk z)]
  by_cases c : (slotOk t && (fieldOk f && slotOk z)) = false
  · rw [if_pos c, if_pos c]
    exact fail_good h W _
  · rw [if_neg c, if_neg c]
    have hc : slotOk t = true ∧ fieldOk f = true ∧ slotOk z = true := by simpa using c
    rw [withField_eq h W hc.2.1]
    by_cases d : fieldFault m t f ≠ 0
    · rw [if_pos d, if_pos d]
      exact fail_good h W _
    · rw [if_neg d, if_neg d, slotAt_eq h]
      obtain ⟨n, en, hl, hv⟩ := fault_living h W hc.2.1 d
      rw [en]
      show Good ((changeField m n f.toNat (slotV m z)).1, [((changeField m n f.toNat (slotV m z)).2 : Int)]) (if slotV m z = (m.rows n).getD f.toNat .nothing then (s, [0]) else (wroteS s n f.toNat (slotV m z), [1]))
      by_cases e : slotV m z = (m.rows n).getD f.toNat .nothing
      · rw [if_pos e]
        unfold changeField
        rw [if_neg (fun q => q e.symm)]
        exact ⟨rfl, h, W⟩
      · rw [if_neg e]
        have ne : (m.rows n).getD f.toNat .nothing ≠ slotV m z := fun q => e q.symm
        refine ⟨?_, h.wrote W ne, W.field n f.toNat (okV_slot W z) hv⟩
        unfold changeField
        rw [if_pos ne]
        rfl
end
end Sv
end
section
/-! # Uses, removals, surveys, questions -/
namespace Sv
open Vbxlaf
section
variable {m : M} {s : State}

/-! ### names with stamps -/
theorem put_sorted {nm : Named} : ∀ {l : List Named}, l.Pairwise (fun a b => a.number < b.number) → (putNamed nm l).Pairwise (fun a b => a.number < b.number) ∧ ∀ x, x ∈ putNamed nm l ↔ x = nm ∨ (x ∈ l ∧ x.number ≠ nm.number)
  | [], _ => by simp [putNamed]
  | a :: l, h => by
    have h' := h
    rw [List.pairwise_cons] at h
    unfold putNamed
    split
    · rename_i c
      refine ⟨List.pairwise_cons.mpr ⟨fun b hb => ?_, h'⟩, fun x => ?_⟩
      · rcases List.mem_cons.mp hb with rfl | hb
        · exact c
        · exact Nat.lt_trans c (h.1 b hb)
      · rw [List.mem_cons]
        constructor
        · rintro (e | e)
          · exact .inl e
          · refine .inr ⟨e, ?_⟩
            rcases List.mem_cons.mp e with rfl | e
            · omega
            · have := h.1 x e
              omega
        · rintro (e | e)
          · exact .inl e
          · exact .inr e.1
    · split
      · rename_i c d
        refine ⟨List.pairwise_cons.mpr ⟨fun b hb => by rw [d]; exact h.1 b hb, h.2⟩, fun x => ?_⟩
        rw [List.mem_cons, List.mem_cons]
        constructor
        · rintro (e | e)
          · exact .inl e
          · have := h.1 x e
            exact .inr ⟨.inr e, by omega⟩
        · rintro (e | ⟨e | e, q⟩)
          · exact .inl e
          · subst e
            exact absurd d.symm q
          · exact .inr e
      · rename_i c d
        obtain ⟨i1, i2⟩ := put_sorted (nm := nm) h.2
        refine ⟨List.pairwise_cons.mpr ⟨fun b hb => ?_, i1⟩, fun x => ?_⟩
        · rcases (i2 b).mp hb with rfl | ⟨e, _⟩
          · omega
          · exact h.1 b e
        · rw [List.mem_cons, List.mem_cons, i2]
          constructor
          · rintro (e | e | e)
            · subst e
              exact .inr ⟨.inl rfl, fun q => d q.symm⟩
            · exact .inl e
            · exact .inr ⟨.inr e.1, e.2⟩
          · rintro (e | ⟨e | e, q⟩)
            · exact .inr (.inl e)
            · exact .inl e
            · exact .inr (.inr ⟨e, q⟩)
/-- the table of names of stamps g -/
def tabN (N : Nat) (g : Nat → Nat) : List Named := ((nums N).filter fun i => decide (0 < g i)).map fun i => ⟨i, g i⟩
theorem mem_tabN {N : Nat} {g : Nat → Nat} {x : Named} : x ∈ tabN N g ↔ 1 ≤ x.number ∧ x.number ≤ N ∧ 0 < g x.number ∧ x.stamp = g x.number := by
  unfold tabN
  rw [List.mem_map]
  constructor
  · rintro ⟨n, hn, rfl⟩
    rw [List.mem_filter, mem_nums, decide_eq_true_eq] at hn
    exact ⟨hn.1.1, hn.1.2, hn.2, rfl⟩
  · rintro ⟨a, b, c, d⟩
    refine ⟨x.number, ?_, ?_⟩
    · rw [List.mem_filter, mem_nums, decide_eq_true_eq]
      exact ⟨⟨a, b⟩, c⟩
    · cases x
      simp only at d
      rw [d]
theorem tabN_sorted (N : Nat) (g : Nat → Nat) : (tabN N g).Pairwise fun a b => a.number < b.number := tab_sorted (fun o : Named => o.number) _ (fun _ => rfl) N _
theorem put_tabN {N : Nat} {g : Nat → Nat} {n k : Nat} (h1 : 1 ≤ n) (h2 : n ≤ N) (hk : 0 < k) : putNamed ⟨n, k⟩ (tabN N g) = tabN N (fset g n k) := by
  obtain ⟨i1, i2⟩ := put_sorted (nm := ⟨n, k⟩) (tabN_sorted N g)
  refine sorted_extBy (fun o : Named => o.number) i1 (tabN_sorted N _) fun x => ?_
  rw [i2, mem_tabN, mem_tabN]
  constructor
  · rintro (e | ⟨⟨a, b, c, d⟩, q⟩)
    · subst e
      rw [fset_same]
      exact ⟨h1, h2, hk, rfl⟩
    · rw [fset_ne q]
      exact ⟨a, b, c, d⟩
  · rintro ⟨a, b, c, d⟩
    by_cases e : x.number = n
    · left
      cases x
      simp only at e d
      subst e
      rw [fset_same] at d
      rw [d]
    · right
      rw [fset_ne e] at c d
      exact ⟨⟨a, b, c, d⟩, e⟩
theorem drop_tabN {N : Nat} {g : Nat → Nat} {n : Nat} : (tabN N g).filter (fun e => e.number != n) = tabN N (fset g n 0) := by
  refine sorted_extBy (fun o : Named => o.number) ((tabN_sorted N g).filter _) (tabN_sorted N _) fun x => ?_
  rw [List.mem_filter, mem_tabN, mem_tabN, bne_iff_ne]
  constructor
  · rintro ⟨⟨a, b, c, d⟩, q⟩
    rw [fset_ne q]
    exact ⟨a, b, c, d⟩
  · rintro ⟨a, b, c, d⟩
    by_cases e : x.number = n
    · rw [e, fset_same] at c
      exact absurd c (Nat.lt_irrefl 0)
    · rw [fset_ne e] at c d
      exact ⟨⟨a, b, c, d⟩, e⟩

/-! ### uses -/
theorem fset_pos {g : Nat → Nat} {n k x : Nat} (h : 0 < fset g n (k + 1) x) : x = n ∨ 0 < g x := by
  unfold fset at h
  split at h
  · rename_i e
    exact .inl e
  · exact .inr h
theorem Wf.useO (W : Wf m) {n : Nat} (l : m.living n = true) : Wf (useObject m n) where
  six := W.six
  most := W.most
  lv := W.lv
  dead := W.dead
  four := W.four
  ent := fun x hx => by
    rcases fset_pos hx with e | e
    · subst e
      exact l
    · exact W.ent x e
  imp := W.imp
  sOk := fun x hx => by
    have := W.sOk x hx
    cases x <;> exact this
  rOk := fun k x hx => by
    have := W.rOk k x hx
    cases x <;> exact this
  ledOk := W.ledOk
  surv := W.surv
  lns := W.lns
theorem R.useO (h : R m s) (W : Wf m) {n : Nat} (l : m.living n = true) : R (useObject m n) (useEntry s n) where
  objs := h.objs
  made := h.made
  slots := h.slots
  ents := by
    show putNamed ⟨n, s.uses + 1⟩ s.entries = tabN 40 (fset m.es n (m.uses + 1))
    rw [h.ents, h.uses]
    have := W.lv n l
    have := W.most
    exact put_tabN (g := m.es) (by omega) (by omega) (Nat.succ_pos _)
  imps := h.imps
  uses := by
    show s.uses + 1 = m.uses + 1
    rw [h.uses]
  survs := h.survs
  chg := h.chg
  slc := h.slc
  recS := h.recS
  recT := h.recT
  recN := fun k => by
    show recordedReach s k = none ↔ (fset m.es n (m.uses + 1) k = 0 ∨ m.surveys = [] ∨ (if m.es n = 0 then fset m.fresh n true else m.fresh) k = true)
    rw [h.recN]
    by_cases e : k = n
    · subst e
      rw [fset_same]
      by_cases z : m.es k = 0
      · rw [if_pos z, fset_same]
        simp [z]
      · rw [if_neg z]
        simp [z]
    · rw [fset_ne e]
      by_cases z : m.es n = 0
      · rw [if_pos z, fset_ne e]
      · rw [if_neg z]
  recE := h.recE
theorem okV_useF {n : Nat} {x : Value} (o : okV m x) : okV (useForeign m n) x := by
  cases x with
  | nothing => exact o
  | object k => exact o
  | foreign k =>
    show 0 < fset m.im n (m.uses + 1) k
    unfold fset
    split
    · exact Nat.succ_pos _
    · exact o
theorem Wf.useF (W : Wf m) {n : Nat} (l : 1 ≤ n ∧ n ≤ 20) : Wf (useForeign m n) where
  six := W.six
  most := W.most
  lv := W.lv
  dead := W.dead
  four := W.four
  ent := W.ent
  imp := fun x hx => by
    rcases fset_pos hx with e | e
    · subst e
      exact l
    · exact W.imp x e
  sOk := fun x hx => okV_useF (W.sOk x hx)
  rOk := fun k x hx => okV_useF (W.rOk k x hx)
  ledOk := W.ledOk
  surv := W.surv
  lns := W.lns
theorem R.useF (h : R m s) {n : Nat} (l : 1 ≤ n ∧ n ≤ 20) : R (useForeign m n) (useImport s n) where
  objs := h.objs
  made := h.made
  slots := h.slots
  ents := h.ents
  imps := by
    show putNamed ⟨n, s.uses + 1⟩ s.imports = tabN 20 (fset m.im n (m.uses + 1))
    rw [h.imps, h.uses]
    exact put_tabN (g := m.im) l.1 l.2 (Nat.succ_pos _)
  uses := by
    show s.uses + 1 = m.uses + 1
    rw [h.uses]
  survs := h.survs
  chg := h.chg
  slc := h.slc
  recS := h.recS
  recT := h.recT
  recN := h.recN
  recE := h.recE
theorem stamp1 (W : Wf m) (z : Int) : (decide (0 ≤ z) && decide (0 < m.es z.toNat)) = decide (stampZ m 1 z ≠ 0) := by
  unfold stampZ
  rw [Bool.eq_iff_iff, Bool.and_eq_true, decide_eq_true_eq, decide_eq_true_eq, decide_eq_true_eq]
  by_cases c : (1 : Int) = 1 ∧ 1 ≤ z ∧ z ≤ 40
  · rw [if_pos c]
    omega
  · rw [if_neg c, if_neg (by omega)]
    constructor
    · rintro ⟨a, b⟩
      have := W.lv _ (W.ent _ b)
      have := W.most
      omega
    · intro q
      exact absurd rfl q
theorem stamp1_pos (W : Wf m) {z : Int} (h : ¬ stampZ m 1 z = 0) : 0 ≤ z ∧ 0 < m.es z.toNat := by
  have := stamp1 W z
  rw [decide_eq_true h, Bool.and_eq_true, decide_eq_true_eq, decide_eq_true_eq] at this
  exact this
theorem good_export (h : R m s) (W : Wf m) (z : Int) : Good (opExport m z) (step s (.exportValue z)) := by
  unfold opExport
  show Good _ (if Vbxlaf.isSlot z = false then fail s (-1) else match slotAt s z with
    | .nothing => fail s (-3)
    | .object number => (useEntry s number, toInts [1, number, s.uses + 1])
    | .foreign number => (useImport s number, toInts [2, number, s.uses + 1]))
  rw [slot_eq, slotAt_eq h, h.uses]
  by_cases c : slotOk z = false
  · rw [if_pos c, if_pos c]
    exact fail_good h W _
  · rw [if_neg c, if_neg c]
    have o := okV_slot W z
    cases e : slotV m z with
    | nothing => exact fail_good h W _
    | object n =>
      rw [e] at o
      exact ⟨rfl, h.useO W o, W.useO o⟩
    | foreign n =>
      rw [e] at o
      exact ⟨rfl, h.useF (W.imp n o), W.useF (W.imp n o)⟩
theorem good_arrive (h : R m s) (W : Wf m) (o z : Int) : Good (opArrive m o z) (step s (.arrive o z)) := by
  unfold opArrive
  show Good _ (if Vbxlaf.isSlot z = false then fail s (-1) else if (decide (0 ≤ o) && isEntry s o.toNat) = false then fail s (-6)
    else (setSlot (useEntry s o.toNat) z (.object o.toNat), toInts [s.uses + 1]))
  rw [slot_eq, h.entry W, stamp1 W, h.uses]
  by_cases c : slotOk z = false
  · rw [if_pos c, if_pos c]
    exact fail_good h W _
  · rw [if_neg c, if_neg c]
    by_cases d : stampZ m 1 o = 0
    · rw [if_pos d, if_pos (by simp [d])]
      exact fail_good h W _
    · rw [if_neg d, if_neg (by simp [d])]
      have hl := W.ent _ (stamp1_pos W d).2
      refine ⟨rfl, ?_, (W.put (v := .object o.toNat) hl _).useO hl⟩
      exact (h.useO W hl).put z (.object o.toNat)
theorem good_import (h : R m s) (W : Wf m) (f z : Int) : Good (opImport m f z) (step s (.importReference f z)) := by
  unfold opImport
  show Good _ (if (inRange f 1 maxForeign && Vbxlaf.isSlot z) = false then fail s (-1)
    else (setSlot (useImport s f.toNat) z (.foreign f.toNat), toInts [flag (!isImport s f.toNat), s.uses + 1]))
  rw [slot_eq, foreign_eq, h.importIs W, h.uses]
  by_cases c : (foreignOk f && slotOk z) = false
  · rw [if_pos c, if_pos c]
    exact fail_good h W _
  · rw [if_neg c, if_neg c]
    have hc : foreignOk f = true ∧ slotOk z = true := by simpa using c
    have hf : 1 ≤ f ∧ f ≤ 20 := by
      have := hc.1
      unfold foreignOk at this
      rw [Bool.and_eq_true, decide_eq_true_eq, decide_eq_true_eq] at this
      exact this
    have hn : 1 ≤ f.toNat ∧ f.toNat ≤ 20 := by omega
    refine ⟨?_, (h.useF hn).put z (.foreign f.toNat), ?_⟩
    · show [(flagN (decide (stampZ m 2 f = 0)) : Int), ((m.uses + 1 : Nat) : Int)] = toInts [flag (!decide (0 < m.im f.toNat)), m.uses + 1]
      have e : stampZ m 2 f = m.im f.toNat := by
        unfold stampZ
        rw [if_neg (by omega), if_pos (by omega)]
      rw [e]
      have e2 : decide (m.im f.toNat = 0) = !decide (0 < m.im f.toNat) := by
        rw [Bool.eq_iff_iff]
        simp
      rw [e2]
      rfl
    · have W1 : Wf (useForeign m f.toNat) := W.useF hn
      have e : useForeign (put m z.toNat (.foreign f.toNat)) f.toNat = put (useForeign m f.toNat) z.toNat (.foreign f.toNat) := rfl
      show Wf (useForeign (put m z.toNat (.foreign f.toNat)) f.toNat)
      rw [e]
      refine W1.put (v := .foreign f.toNat) ?_ _
      show 0 < fset m.im f.toNat (m.uses + 1) f.toNat
      rw [fset_same]
      exact Nat.succ_pos _

/-! ### retire -/
theorem find_filter_ne {n k : Nat} : ∀ {l : List (Nat × Reach)}, (l.filter fun r => r.1 != n).find? (fun r => r.1 == k) = if k = n then none else l.find? (fun r => r.1 == k)
  | [] => by simp
  | a :: l => by
    rw [List.filter_cons]
    by_cases e : a.1 = n
    · have : ¬ (a.1 != n) = true := by simp [e]
      rw [if_neg this, find_filter_ne]
      by_cases q : k = n
      · rw [if_pos q, if_pos q]
      · rw [if_neg q, if_neg q, List.find?_cons]
        have : (a.1 == k) = false := beq_eq_false_iff_ne.mpr (by omega)
        rw [this]
    · have : (a.1 != n) = true := by simp [e]
      rw [if_pos this, List.find?_cons, find_filter_ne, List.find?_cons]
      by_cases q : k = n
      · rw [if_pos q, if_pos q]
        have : (a.1 == k) = false := beq_eq_false_iff_ne.mpr (by omega)
        rw [this]
      · rw [if_neg q, if_neg q]
def retired (s : State) (n : Nat) : State := { s with entries := s.entries.filter fun entry => entry.number != n, recordedEntries := s.recordedEntries.filter fun recorded => recorded.1 != n }
theorem rec_retired (s : State) (n k : Nat) : recordedReach (retired s n) k = if k = n then none else recordedReach s k := by
  show ((s.recordedEntries.filter fun recorded => recorded.1 != n).find? fun recorded => recorded.1 == k).map (fun recorded => recorded.2) = _
  rw [find_filter_ne]
  by_cases q : k = n
  · rw [if_pos q, if_pos q]
    rfl
  · rw [if_neg q, if_neg q]
    rfl
theorem R.retire (h : R m s) (n : Nat) : R (dropEnt m n) (retired s n) where
  objs := h.objs
  made := h.made
  slots := h.slots
  ents := by
    show s.entries.filter (fun entry => entry.number != n) = tabN 40 (fset m.es n 0)
    rw [h.ents]
    exact drop_tabN (g := m.es)
  imps := h.imps
  uses := h.uses
  survs := h.survs
  chg := h.chg
  slc := h.slc
  recS := h.recS
  recT := h.recT
  recN := fun k => by
    rw [rec_retired]
    show _ ↔ (fset m.es n 0 k = 0 ∨ m.surveys = [] ∨ m.fresh k = true)
    by_cases q : k = n
    · subst q
      rw [if_pos rfl, fset_same]
      simp
    · rw [if_neg q, fset_ne q]
      exact h.recN k
  recE := fun k r e => by
    rw [rec_retired] at e
    by_cases q : k = n
    · rw [if_pos q] at e
      cases e
    · rw [if_neg q] at e
      refine ⟨(h.recE k r e).1, fun c => (h.recE k r e).2 ?_⟩
      unfold isAffected at c ⊢
      rw [rec_retired, if_neg q] at c
      exact c
theorem Wf.retire (W : Wf m) (n : Nat) : Wf (dropEnt m n) where
  six := W.six
  most := W.most
  lv := W.lv
  dead := W.dead
  four := W.four
  ent := fun x hx => by
    have hx' : 0 < fset m.es n 0 x := hx
    unfold fset at hx'
    split at hx'
    · exact absurd hx' (Nat.lt_irrefl 0)
    · exact W.ent x hx'
  imp := W.imp
  sOk := fun x hx => by
    have := W.sOk x hx
    cases x <;> exact this
  rOk := fun k x hx => by
    have := W.rOk k x hx
    cases x <;> exact this
  ledOk := W.ledOk
  surv := W.surv
  lns := W.lns
theorem good_retire (h : R m s) (W : Wf m) (o : Int) : Good (opRetire m o) (step s (.retire o)) := by
  unfold opRetire
  show Good _ (if (decide (0 ≤ o) && isEntry s o.toNat) = false then fail s (-6) else (retired s o.toNat, [0]))
  rw [h.entry W, stamp1 W]
  by_cases d : stampZ m 1 o = 0
  · rw [if_pos d, if_pos (by simp [d])]
    exact fail_good h W _
  · rw [if_neg d, if_neg (by simp [d])]
    exact ⟨rfl, h.retire _, W.retire _⟩

/-! ### collect -/
theorem foldl_dropObj : ∀ (l : List Nat) (m : M), l.foldl dropObj m = { m with rows := fun n => if n ∈ l then [] else m.rows n, living := fun n => if n ∈ l then false else m.living n }
  | [], m => by simp
  | a :: l, m => by
    rw [List.foldl_cons, foldl_dropObj l]
    unfold dropObj fset
    congr 1
    · funext n
      simp only [List.mem_cons]
      by_cases c : n ∈ l
      · rw [if_pos c, if_pos (.inr c)]
      · rw [if_neg c]
        by_cases d : n = a
        · rw [if_pos d, if_pos (.inl d)]
        · rw [if_neg d, if_neg (by rintro (q | q); exact d q; exact c q)]
    · funext n
      simp only [List.mem_cons]
      by_cases c : n ∈ l
      · rw [if_pos c, if_pos (.inr c)]
      · rw [if_neg c]
        by_cases d : n = a
        · rw [if_pos d, if_pos (.inl d)]
        · rw [if_neg d, if_neg (by rintro (q | q); exact d q; exact c q)]
theorem foldl_dropImp : ∀ (l : List Nat) (m : M), l.foldl dropImp m = { m with im := fun n => if n ∈ l then 0 else m.im n }
  | [], m => by simp
  | a :: l, m => by
    rw [List.foldl_cons, foldl_dropImp l]
    unfold dropImp fset
    congr 1
    funext n
    simp only [List.mem_cons]
    by_cases c : n ∈ l
    · rw [if_pos c, if_pos (.inr c)]
    · rw [if_neg c]
      by_cases d : n = a
      · rw [if_pos d, if_pos (.inl d)]
      · rw [if_neg d, if_neg (by rintro (q | q); exact d q; exact c q)]
theorem collect_is (m : M) : collectM m = { m with rows := fun n => if n ∈ freedOf m then [] else m.rows n, living := fun n => if n ∈ freedOf m then false else m.living n, im := fun n => if n ∈ givenUp m then 0 else m.im n } := by
  unfold collectM
  rw [foldl_dropObj, foldl_dropImp]
/-- the seeds of all sources -/
def allSeeds (m : M) : List Value := m.slots ++ (entriesNow m).map Value.object
theorem seeds_ok (W : Wf m) : ∀ v ∈ allSeeds m, okV m v := by
  intro v hv
  unfold allSeeds at hv
  rw [List.mem_append, List.mem_map] at hv
  rcases hv with hv | ⟨n, hn, rfl⟩
  · exact W.sOk v hv
  · exact W.ent n ((mem_entriesNow W).mp hn)
theorem mem_allLed (W : Wf m) {v : Value} : v ∈ allLed m ↔ Leads m.rows (allSeeds m) v := W.reached (seeds_ok W)
theorem mem_freed (W : Wf m) {n : Nat} : n ∈ freedOf m ↔ m.living n = true ∧ ¬ Leads m.rows (allSeeds m) (.object n) := by
  unfold freedOf
  rw [List.mem_filter, decide_eq_true_eq, mem_objectsNow W, mem_allLed W]
theorem mem_given (W : Wf m) {n : Nat} : n ∈ givenUp m ↔ 0 < m.im n ∧ ¬ Leads m.rows (allSeeds m) (.foreign n) := by
  unfold givenUp
  rw [List.mem_filter, decide_eq_true_eq, mem_importsNow W, mem_allLed W]
theorem rows_kept (W : Wf m) {n : Nat} (l : Leads m.rows (allSeeds m) (.object n)) : (collectM m).rows n = m.rows n := by
  rw [collect_is]
  show (if n ∈ freedOf m then [] else m.rows n) = m.rows n
  rw [if_neg fun q => ((mem_freed W).mp q).2 l]
theorem leads_collect (W : Wf m) {seeds : List Value} (hs : ∀ v ∈ seeds, v ≠ .nothing → v ∈ allSeeds m) (v : Value) : Leads (collectM m).rows seeds v ↔ Leads m.rows seeds v :=
  leads_congr (fun n l => rows_kept W (Leads.mono hs (fun _ _ _ a _ => a) l)) v
theorem okV_collect (W : Wf m) {v : Value} (o : okV m v) (l : v ≠ .nothing → Leads m.rows (allSeeds m) v) : okV (collectM m) v := by
  rw [collect_is]
  cases v with
  | nothing => exact True.intro
  | object n =>
    show (if n ∈ freedOf m then false else m.living n) = true
    rw [if_neg fun q => ((mem_freed W).mp q).2 (l (by simp))]
    exact o
  | foreign n =>
    show 0 < (if n ∈ givenUp m then 0 else m.im n)
    rw [if_neg fun q => ((mem_given W).mp q).2 (l (by simp))]
    exact o
theorem Wf.collect (W : Wf m) : Wf (collectM m) := by
  have sOk : ∀ v ∈ m.slots, okV (collectM m) v := fun v hv => okV_collect W (W.sOk v hv) fun ne => .seed (List.mem_append.mpr (.inl hv)) ne
  have rOk : ∀ n, ∀ v ∈ (collectM m).rows n, okV (collectM m) v := fun n v hv => by
    have hv0 := hv
    rw [collect_is] at hv
    have hv' : v ∈ (if n ∈ freedOf m then [] else m.rows n) := hv
    by_cases c : n ∈ freedOf m
    · rw [if_pos c] at hv'
      cases hv'
    · rw [if_neg c] at hv'
      refine okV_collect W (W.rOk n v hv') fun ne => ?_
      by_cases d : Leads m.rows (allSeeds m) (.object n)
      · exact .step d hv' ne
      · cases e : m.living n with
        | true => exact absurd ((mem_freed W).mpr ⟨e, d⟩) c
        | false =>
          rw [W.dead n e] at hv'
          cases hv'
  have ent : ∀ n, 0 < m.es n → (collectM m).living n = true := fun n hn =>
    okV_collect (v := .object n) W (W.ent n hn) fun ne => .seed (List.mem_append.mpr (.inr (List.mem_map.mpr ⟨n, (mem_entriesNow W).mpr hn, rfl⟩))) ne
  rw [collect_is] at *
  refine ⟨W.six, W.most, fun n hn => W.lv n ?_, fun n hn => ?_, fun n => ?_, ent, fun n hn => W.imp n ?_, sOk, rOk, W.ledOk, W.surv, W.lns⟩
  · have hn' : (if n ∈ freedOf m then false else m.living n) = true := hn
    split at hn'
    · cases hn'
    · exact hn'
  · show (if n ∈ freedOf m then [] else m.rows n) = []
    have hn' : (if n ∈ freedOf m then false else m.living n) = false := hn
    split
    · rfl
    · rename_i c
      rw [if_neg c] at hn'
      exact W.dead n hn'
  · show (if n ∈ freedOf m then [] else m.rows n).length ≤ 4
    split
    · exact Nat.zero_le _
    · exact W.four n
  · have hn' : 0 < (if n ∈ givenUp m then 0 else m.im n) := hn
    split at hn'
    · exact absurd hn' (Nat.lt_irrefl 0)
    · exact hn'
def collected (s : State) : State := { s with objects := s.objects.filter fun object => (keptBy s).objects.contains object.number, imports := s.imports.filter fun entry => (keptBy s).foreigns.contains entry.number }
theorem kept_is (h : R m s) (W : Wf m) : IsReach m.rows (allSeeds m) (keptBy s) := by
  have e : s.slots ++ s.entries.map (fun entry => Value.object entry.number) = allSeeds m := by
    unfold allSeeds
    rw [h.slots, h.ents, List.map_map]
    rfl
  unfold keptBy
  rw [e]
  exact h.reach W (seeds_ok W)
theorem R.collect (h : R m s) (W : Wf m) : R (collectM m) (collected s) := by
  have K := kept_is h W
  have l0 := leads_collect W (seeds := m.slots) fun v hv _ => List.mem_append.mpr (.inl hv)
  have lE : ∀ n, 0 < m.es n → ∀ v, Leads (collectM m).rows [.object n] v ↔ Leads m.rows [.object n] v := fun n e => leads_collect W fun v hv _ => by
    rw [List.mem_singleton] at hv
    subst hv
    exact List.mem_append.mpr (.inr (List.mem_map.mpr ⟨n, (mem_entriesNow W).mpr e, rfl⟩))
  have T : areSlotsAffected (collected s) = false → IsReach (collectM m).rows m.slots s.recordedSlots := fun q => (h.recT q).congr l0
  have E : ∀ n r, recordedReach s n = some r → isAffected s n = false → IsReach (collectM m).rows [.object n] r := fun n r e q => ((h.recE n r e).2 q).congr (lE n (rec_pos h e))
  have O : s.objects.filter (fun object => (keptBy s).objects.contains object.number) = (objectsNow (collectM m)).map fun n => ⟨n, (collectM m).rows n⟩ := by
    rw [h.objs, List.filter_map]
    have e1 : (objectsNow m).filter ((fun object : Object => (keptBy s).objects.contains object.number) ∘ fun n => ⟨n, m.rows n⟩) = objectsNow (collectM m) := by
      unfold objectsNow
      rw [List.filter_filter, collect_is]
      refine List.filter_congr fun n hn => ?_
      show ((keptBy s).objects.contains n && m.living n) = if n ∈ freedOf m then false else m.living n
      by_cases c : n ∈ freedOf m
      · rw [if_pos c]
        have : (keptBy s).objects.contains n = false := by
          rw [Bool.eq_false_iff]
          intro q
          exact ((mem_freed W).mp c).2 ((K.om n).mp (by simpa using q))
        rw [this]
        rfl
      · rw [if_neg c]
        cases e : m.living n with
        | false => simp
        | true =>
          have : Leads m.rows (allSeeds m) (.object n) := Classical.byContradiction fun d => c ((mem_freed W).mpr ⟨e, d⟩)
          rw [Bool.and_true]
          simpa using (K.om n).mpr this
    rw [e1]
    refine List.map_congr_left fun n hn => ?_
    have ln : (collectM m).living n = true := (mem_objectsNow W.collect).mp hn
    rw [collect_is] at ln ⊢
    show (⟨n, m.rows n⟩ : Object) = ⟨n, if n ∈ freedOf m then [] else m.rows n⟩
    by_cases c : n ∈ freedOf m
    · have ln' : (if n ∈ freedOf m then false else m.living n) = true := ln
      rw [if_pos c] at ln'
      cases ln'
    · rw [if_neg c]
  have I : s.imports.filter (fun entry => (keptBy s).foreigns.contains entry.number) = (importsNow (collectM m)).map fun n => ⟨n, (collectM m).im n⟩ := by
    rw [h.imps, List.filter_map]
    have e1 : (importsNow m).filter ((fun entry : Named => (keptBy s).foreigns.contains entry.number) ∘ fun n => ⟨n, m.im n⟩) = importsNow (collectM m) := by
      unfold importsNow
      rw [List.filter_filter, collect_is]
      refine List.filter_congr fun n hn => ?_
      show ((keptBy s).foreigns.contains n && decide (0 < m.im n)) = decide (0 < if n ∈ givenUp m then 0 else m.im n)
      by_cases c : n ∈ givenUp m
      · rw [if_pos c]
        have : (keptBy s).foreigns.contains n = false := by
          rw [Bool.eq_false_iff]
          intro q
          exact ((mem_given W).mp c).2 ((K.fm n).mp (by simpa using q))
        rw [this]
        rfl
      · rw [if_neg c]
        by_cases e : 0 < m.im n
        · have : Leads m.rows (allSeeds m) (.foreign n) := Classical.byContradiction fun d => c ((mem_given W).mpr ⟨e, d⟩)
          rw [decide_eq_true e, Bool.and_true]
          simpa using (K.fm n).mpr this
        · rw [decide_eq_false e, Bool.and_false]
    rw [e1]
    refine List.map_congr_left fun n hn => ?_
    have ln : 0 < (collectM m).im n := (mem_importsNow W.collect).mp hn
    rw [collect_is] at ln ⊢
    show (⟨n, m.im n⟩ : Named) = ⟨n, if n ∈ givenUp m then 0 else m.im n⟩
    by_cases c : n ∈ givenUp m
    · have ln' : 0 < (if n ∈ givenUp m then 0 else m.im n) := ln
      rw [if_pos c] at ln'
      exact absurd ln' (Nat.lt_irrefl 0)
    · rw [if_neg c]
  rw [collect_is] at *
  exact ⟨O, h.made, h.slots, h.ents, I, h.uses, h.survs, h.chg, h.slc, h.recS, T, h.recN, fun n r e => ⟨(h.recE n r e).1, E n r e⟩⟩
theorem freed_eq (h : R m s) (W : Wf m) : (s.objects.map fun object => object.number).filter (fun number => !(keptBy s).objects.contains number) = freedOf m := by
  have K := kept_is h W
  rw [h.objs, List.map_map, show ((fun object : Object => object.number) ∘ fun n => (⟨n, m.rows n⟩ : Object)) = id from rfl, List.map_id]
  unfold freedOf
  refine List.filter_congr fun n _ => ?_
  rw [Bool.eq_iff_iff, decide_eq_true_eq, mem_allLed W, ← K.om n]
  simp
theorem given_eq (h : R m s) (W : Wf m) : (s.imports.map fun entry => entry.number).filter (fun number => !(keptBy s).foreigns.contains number) = givenUp m := by
  have K := kept_is h W
  rw [h.imps, List.map_map, show ((fun entry : Named => entry.number) ∘ fun n => (⟨n, m.im n⟩ : Named)) = id from rfl, List.map_id]
  unfold givenUp
  refine List.filter_congr fun n _ => ?_
  rw [Bool.eq_iff_iff, decide_eq_true_eq, mem_allLed W, ← K.fm n]
  simp
theorem good_collect (h : R m s) (W : Wf m) : Good (opCollect m) (step s .collect) := by
  refine ⟨?_, h.collect W, W.collect⟩
  show ((freedOf m).length : Int) :: intL (freedOf m) ++ ((givenUp m).length : Int) :: intL (givenUp m) =
    counted ((s.objects.map fun object => object.number).filter fun number => !(keptBy s).objects.contains number) ++ counted ((s.imports.map fun entry => entry.number).filter fun number => !(keptBy s).foreigns.contains number)
  rw [freed_eq h W, given_eq h W]
  rfl

/-! ### a survey is made -/
theorem linesNow_len (m : M) : (linesNow m).length ≤ 60 := by
  unfold linesNow namesNow entriesNow importsNow
  rw [List.length_map, List.length_append, List.length_map, List.length_map]
  have h1 := List.length_filter_le (fun n => decide (0 < m.es n)) (nums 40)
  have h2 := List.length_filter_le (fun n => decide (0 < m.im n)) (nums 20)
  have e1 : (nums 40).length = 40 := by decide
  have e2 : (nums 20).length = 20 := by decide
  omega
theorem entries_len (m : M) : (entriesNow m).length ≤ 40 := by
  have h1 := List.length_filter_le (fun n => decide (0 < m.es n)) (nums 40)
  have e1 : (nums 40).length = 40 := by decide
  unfold entriesNow
  omega
theorem lines_ok (W : Wf m) : ∀ l ∈ linesNow m, LineOk (linesNow m) l := by
  intro l hl
  unfold linesNow at hl
  obtain ⟨name, hn, rfl⟩ := List.mem_map.mp hl
  refine ⟨names_kind hn, ?_, ?_, ?_, fun n hs => ?_⟩
  · unfold namesNow at hn
    rw [List.mem_append, List.mem_map, List.mem_map] at hn
    rcases hn with ⟨n, hn, rfl⟩ | ⟨n, hn, rfl⟩
    · unfold entriesNow at hn
      exact (mem_nums.mp (List.mem_filter.mp hn).1).2
    · unfold importsNow at hn
      have := (mem_nums.mp (List.mem_filter.mp hn).1).2
      show n ≤ 40
      omega
  · exact Nat.le_trans (List.length_filter_le _ _) (entries_len m)
  · show 0 < stampM m name
    unfold namesNow at hn
    rw [List.mem_append, List.mem_map, List.mem_map] at hn
    rcases hn with ⟨n, hn, rfl⟩ | ⟨n, hn, rfl⟩
    · exact (mem_entriesNow W).mp hn
    · exact (mem_importsNow W).mp hn
  · have he : n ∈ entriesNow m := (List.mem_filter.mp hs).1
    refine ⟨lineM m ⟨1, n⟩, ?_, rfl⟩
    unfold linesNow
    refine List.mem_map.mpr ⟨⟨1, n⟩, ?_, rfl⟩
    unfold namesNow
    exact List.mem_append.mpr (.inl (List.mem_map.mpr ⟨n, he, rfl⟩))
theorem objectsLed_le (W : Wf m) (n : Nat) : (objectsLed m n).length ≤ 1000 := by
  unfold objectsLed objectsIn
  refine Nat.le_trans (List.length_filterMap_le _ _) ?_
  unfold ledBy
  split
  · have := reached_len W.four m.slots 60
    have := W.six
    unfold reached
    omega
  · have := reached_len W.four [Value.object n] 60
    unfold reached
    simp only [List.length_singleton] at this
    omega
theorem objectsLed_ok (W : Wf m) {n : Nat} (hn : n ∈ sourcesNow m) : ∀ x ∈ objectsLed m n, x ≤ 40 := by
  intro x hx
  unfold objectsLed at hx
  rw [mem_objectsIn] at hx
  have o : okV m (.object x) := by
    rcases List.mem_cons.mp hn with e | e
    · subst e
      exact W.leads W.sOk ((ledBy0 W).mp hx)
    · have en := (mem_entriesNow W).mp e
      exact W.leads (W.okEntry en) ((ledByE W en).mp hx)
  have := W.lv x o
  have := W.most
  omega
theorem Wf.keep (W : Wf m) (c : ¬ 30 ≤ m.surveys.length) : Wf (keep m) where
  six := W.six
  most := W.most
  lv := W.lv
  dead := W.dead
  four := W.four
  ent := W.ent
  imp := W.imp
  sOk := fun x hx => by
    have := W.sOk x hx
    cases x <;> exact this
  rOk := fun k x hx => by
    have := W.rOk k x hx
    cases x <;> exact this
  ledOk := fun n => by
    show (if n ∈ sourcesNow m then objectsLed m n else []).length ≤ 1000 ∧ ∀ x ∈ (if n ∈ sourcesNow m then objectsLed m n else []), x ≤ 40
    by_cases q : n ∈ sourcesNow m
    · rw [if_pos q]
      exact ⟨objectsLed_le W n, objectsLed_ok W q⟩
    · rw [if_neg q]
      exact ⟨Nat.zero_le _, fun x hx => by cases hx⟩
  surv := by
    show (m.surveys ++ [linesNow m]).length ≤ 30
    rw [List.length_append, List.length_singleton]
    omega
  lns := fun ls hls => by
    rcases List.mem_append.mp hls with h | h
    · exact W.lns ls h
    · rw [List.mem_singleton] at h
      subst h
      exact ⟨linesNow_len m, lines_ok W⟩
theorem rec_update (h : R m s) (W : Wf m) (n : Nat) : recordedReach (Vbxlaf.update s) n = if 0 < m.es n then some (Sv.updE s n) else none := by
  show ((updatedEntries s).find? fun recorded => recorded.1 == n).map (fun recorded => recorded.2) = _
  rw [h.updEs, find_tab (fun r : Nat × Reach => r.1) (fun n => (n, Sv.updE s n)) (fun _ => rfl)]
  by_cases c : 0 < m.es n
  · rw [if_pos ((mem_entriesNow W).mpr c), if_pos c]
    rfl
  · rw [if_neg (fun q => c ((mem_entriesNow W).mp q)), if_neg c]
    rfl
theorem keep_led {n : Nat} (h : n ∈ sourcesNow m) : (keep m).led n = objectsLed m n := if_pos h
theorem R.update (h : R m s) (W : Wf m) : R (keep m) (Vbxlaf.update s) where
  objs := h.objs
  made := h.made
  slots := h.slots
  ents := h.ents
  imps := h.imps
  uses := h.uses
  survs := by
    show s.surveys ++ [(surveyedNames s).map (lineOf (updatedSlots s) (updatedEntries s))] = m.surveys ++ [linesNow m]
    rw [h.survs, h.updEs, lines_eq h W (h.updS W) fun n e => h.updE W e]
  chg := fun n => by
    show n ∈ ([] : List Nat) ↔ false = true
    simp
  slc := by
    show false = ((m.surveys ++ [linesNow m]).isEmpty || false)
    cases m.surveys <;> rfl
  recS := fun _ n => by
    have h0 : 0 ∈ sourcesNow m := by
      unfold sourcesNow
      exact List.mem_cons_self ..
    have e : (keep m).led 0 = objectsLed m 0 := keep_led h0
    rw [e]
    unfold objectsLed
    rw [mem_objectsIn, ledBy0 W]
    exact (h.updS W).om n
  recT := fun _ => h.updS W
  recN := fun n => by
    rw [rec_update h W]
    have e1 : (keep m).surveys ≠ [] := fun q => by
      have q' : m.surveys ++ [linesNow m] = [] := q
      cases z : m.surveys <;> rw [z] at q' <;> cases q'
    have e2 : (keep m).fresh n ≠ true := fun q => by
      have q' : false = true := q
      cases q'
    have e3 : (keep m).es n = m.es n := rfl
    rw [e3]
    by_cases c : 0 < m.es n
    · rw [if_pos c]
      constructor
      · intro q
        cases q
      · rintro (q | q | q)
        · omega
        · exact absurd q e1
        · exact absurd q e2
    · rw [if_neg c]
      exact ⟨fun _ => .inl (by omega), fun _ => rfl⟩
  recE := fun n r e => by
    rw [rec_update h W] at e
    by_cases c : 0 < m.es n
    · rw [if_pos c] at e
      cases e
      refine ⟨fun x => ?_, fun _ => h.updE W c⟩
      have e : (keep m).led n = objectsLed m n := if_pos (List.mem_cons_of_mem _ ((mem_entriesNow W).mpr c))
      rw [e]
      unfold objectsLed
      rw [mem_objectsIn, ledByE W c]
      exact (h.updE W c).om x
    · rw [if_neg c] at e
      cases e
theorem good_update (h : R m s) (W : Wf m) : Good (opUpdate m) (step s .update) := by
  unfold opUpdate
  show Good _ (if maxSurveys ≤ s.surveys.length then fail s (-8) else (Vbxlaf.update s, toInts [s.surveys.length + 1, lookedAt s, (surveyedNames s).length]))
  rw [h.survs, work_eq h W]
  by_cases c : 30 ≤ m.surveys.length
  · rw [if_pos c, if_pos (show maxSurveys ≤ m.surveys.length from c)]
    exact fail_good h W _
  · rw [if_neg c, if_neg (show ¬ maxSurveys ≤ m.surveys.length from c)]
    refine ⟨?_, h.update W, W.keep c⟩
    have e : (surveyedNames s).length = (linesNow m).length := by
      rw [surveyed h]
      unfold linesNow
      rw [List.length_map, List.length_map]
    rw [e]
    rfl
end
end Sv
end
section
/-! # Questions; paths -/
namespace Sv
open Vbxlaf
section
variable {m : M} {s : State}

theorem survey_at (h : R m s) (index : Int) : (if index < 1 then none else s.surveys[index.toNat - 1]?) = surveyAt m index := by
  unfold surveyAt
  rw [h.survs]
  by_cases c : index < 1
  · rw [if_pos c, if_neg (by omega)]
  · rw [if_neg c]
    by_cases d : index ≤ (m.surveys.length : Int)
    · rw [if_pos (by omega)]
      congr 1
      omega
    · rw [if_neg (by omega), List.getElem?_eq_none (by omega)]
theorem withSurvey_eq (h : R m s) (index : Int) (run : List Line → State × List Int) : withSurvey s index run = match surveyAt m index with | none => fail s (-7) | some lines => run lines := by
  unfold withSurvey
  rw [survey_at h]
  rfl
theorem out_survey (h : R m s) (index : Int) : step s (.survey index) = (s, outSurvey m index) := by
  show withSurvey s index (fun lines => (s, (lines.length : Int) :: lines.flatMap stampedLineCode)) = _
  rw [withSurvey_eq h]
  unfold outSurvey
  cases surveyAt m index with
  | none => rfl
  | some lines =>
    show (s, _) = (s, _)
    congr 2
theorem stampOf_eq (h : R m s) (W : Wf m) (name : Name) : stampOf s name = if 0 < stampM m name then some (stampM m name) else none := by
  unfold stampOf stampM
  by_cases c : name.kind = 1
  · rw [if_pos c, if_pos c, h.ents, find_tab (fun o : Named => o.number) (fun n => (⟨n, m.es n⟩ : Named)) (fun _ => rfl)]
    simp only [mem_entriesNow W]
    by_cases d : 0 < m.es name.number
    · rw [if_pos d, if_pos d]
      rfl
    · rw [if_neg d, if_neg d]
      rfl
  · rw [if_neg c, if_neg c, h.imps, find_tab (fun o : Named => o.number) (fun n => (⟨n, m.im n⟩ : Named)) (fun _ => rfl)]
    simp only [mem_importsNow W]
    by_cases d : 0 < m.im name.number
    · rw [if_pos d, if_pos d]
      rfl
    · rw [if_neg d, if_neg d]
      rfl
theorem find_name (lines : List Line) (name : Name) : findLine lines name.kind name.number = lines.find? fun line => line.name == name := by
  unfold findLine
  congr 1
  funext l
  rw [Bool.eq_iff_iff, Bool.and_eq_true, decide_eq_true_eq, decide_eq_true_eq, beq_iff_eq]
  constructor
  · rintro ⟨a, b⟩
    cases e : l.name
    cases e2 : name
    rw [e, e2] at a b
    simp only at a b
    rw [show _ from Int.ofNat.inj a, show _ from Int.ofNat.inj b]
  · intro e
    rw [e]
    exact ⟨rfl, rfl⟩
theorem survey_mem {index : Int} {lines : List Line} (e : surveyAt m index = some lines) : lines ∈ m.surveys := by
  unfold surveyAt at e
  split at e
  · exact List.mem_of_getElem? e
  · cases e
theorem has_line {lines : List Line} {name : Name} (hl : ∃ l ∈ lines, l.name = name) (ok : ∀ l ∈ lines, LineOk lines l) : ∃ k, 0 < k ∧ stampAt lines name = some k := by
  unfold stampAt
  rw [find_name]
  obtain ⟨l, hl, e⟩ := hl
  cases q : lines.find? (fun line => line.name == name) with
  | none =>
    have := List.find?_eq_none.mp q l hl
    simp [e] at this
  | some l' => exact ⟨l'.stamp, (ok l' (List.mem_of_find?_eq_some q)).pos, rfl⟩
theorem moved_eq (h : R m s) (W : Wf m) {lines : List Line} {line : Line} (hl : line ∈ lines) (ok : ∀ l ∈ lines, LineOk lines l) : firstUsed s lines (namesOf line) = firstMoved m lines line := by
  unfold firstUsed firstMoved namesOf
  have key : ∀ name, (∃ l ∈ lines, l.name = name) → (stampOf s name != stampIn lines name) = !hasStamp m lines name := by
    intro name hn
    obtain ⟨k, hk, e⟩ := has_line hn ok
    have e' : stampIn lines name = some k := by
      unfold stampIn
      unfold stampAt at e
      rw [find_name] at e
      exact e
    unfold hasStamp
    rw [e, e', stampOf_eq h W]
    by_cases c : 0 < stampM m name
    · rw [if_pos c]
      by_cases d : k = stampM m name
      · subst d
        simp
      · have d' : stampM m name ≠ k := fun q => d q.symm
        simp [d, d']
    · rw [if_neg c]
      have : k ≠ stampM m name := by omega
      simp [this]
  have all : ∀ name ∈ line.name :: line.sources.map (fun number => (⟨1, number⟩ : Name)), ∃ l ∈ lines, l.name = name := by
    intro name hn
    rcases List.mem_cons.mp hn with e | e
    · exact ⟨line, hl, e.symm⟩
    · obtain ⟨n, hn2, rfl⟩ := List.mem_map.mp e
      exact (ok line hl).src n hn2
  generalize line.name :: line.sources.map (fun number => (⟨1, number⟩ : Name)) = L at all
  induction L with
  | nil => rfl
  | cons a L ih =>
    rw [List.find?_cons, List.find?_cons, key a (all a (List.mem_cons_self ..))]
    rw [ih fun n hn => all n (List.mem_cons_of_mem _ hn)]
theorem out_current (h : R m s) (W : Wf m) (index kind number : Int) : step s (.isCurrent index kind number) = (s, outCurrent m index kind number) := by
  show (if inRange kind 1 2 = false then fail s (-1) else withSurvey s index fun lines =>
    match lines.find? fun line => (line.name.kind : Int) == kind && (line.name.number : Int) == number with
    | none => fail s (-6)
    | some line => (s, if line.rooted = true then [0, 1] else match firstUsed s lines (namesOf line) with
      | none => [1]
      | some name => [0, 2] ++ nameCode name)) = _
  rw [kind_eq, withSurvey_eq h]
  unfold outCurrent
  by_cases c : kindOk kind = false
  · rw [if_pos c, if_pos c]
    rfl
  · rw [if_neg c, if_neg c]
    cases e : surveyAt m index with
    | none => rfl
    | some lines =>
      have ok := (W.lns lines (survey_mem e)).2
      show (match lines.find? fun line => (line.name.kind : Int) == kind && (line.name.number : Int) == number with
        | none => fail s (-6)
        | some line => (s, if line.rooted = true then [0, 1] else match firstUsed s lines (namesOf line) with
          | none => [1]
          | some name => [0, 2] ++ nameCode name)) = (s, match findLine lines kind number with
        | none => [-6]
        | some line => if line.rooted = true then [0, 1] else match firstMoved m lines line with
          | none => [1]
          | some name => [0, 2, (name.kind : Int), (name.number : Int)])
      have e2 : (lines.find? fun line => (line.name.kind : Int) == kind && (line.name.number : Int) == number) = findLine lines kind number := by
        unfold findLine
        congr 1
      rw [e2]
      cases q : findLine lines kind number with
      | none => rfl
      | some line =>
        have hl : line ∈ lines := List.mem_of_find?_eq_some q
        show (s, _) = (s, _)
        rw [moved_eq h W hl ok]
        congr 2
theorem out_lines (h : R m s) (W : Wf m) : step s .lines = (s, outLines m) := by
  show (s, ((scratchLines s).length : Int) :: (scratchLines s).flatMap lineCode) = _
  rw [scratch_eq h W]
  rfl
theorem out_affected (h : R m s) (W : Wf m) : step s .affected = (s, outAffected m) := by
  show (s, toInts [flag (areSlotsAffected s)] ++ (counted ((s.entries.filter fun entry => isAffected s entry.number).map fun entry => entry.number) ++ toInts [lookedAt s])) = _
  rw [← affected_eq h W, ← aff0_eq h W, work_eq h W]
  rfl
theorem stampZ_neg (W : Wf m) {k z : Int} (c : ¬ 0 ≤ z) : stampZ m k z = 0 := by
  unfold stampZ
  rw [if_neg (by omega), if_neg (by omega)]
theorem stampZ_is (W : Wf m) {k z : Int} (hk : kindOk k = true) (c : 0 ≤ z) : stampZ m k z = stampM m ⟨k.toNat, z.toNat⟩ := by
  unfold kindOk at hk
  rw [Bool.or_eq_true, decide_eq_true_eq, decide_eq_true_eq] at hk
  unfold stampZ stampM
  rcases hk with e | e
  · subst e
    rw [if_pos (show (1 : Int).toNat = 1 from rfl)]
    by_cases d : 1 ≤ z ∧ z ≤ 40
    · rw [if_pos (by omega)]
    · rw [if_neg (by omega), if_neg (by omega)]
      rcases Nat.eq_zero_or_pos (m.es z.toNat) with q | q
      · exact q.symm
      · have := W.lv _ (W.ent _ q)
        have := W.most
        omega
  · subst e
    rw [if_neg (by omega), if_neg (show ¬ (2 : Int).toNat = 1 by decide)]
    by_cases d : 1 ≤ z ∧ z ≤ 20
    · rw [if_pos (by omega)]
    · rw [if_neg (by omega)]
      rcases Nat.eq_zero_or_pos (m.im z.toNat) with q | q
      · exact q.symm
      · have := W.imp _ q
        omega
theorem out_stamp (h : R m s) (W : Wf m) (kind number : Int) : step s (.stamp kind number) = (s, outStamp m kind number) := by
  show (if inRange kind 1 2 = false then fail s (-1)
    else if (decide (0 ≤ number) && (stampOf s ⟨kind.toNat, number.toNat⟩).isSome) = false then fail s (-6)
    else (s, toInts [(stampOf s ⟨kind.toNat, number.toNat⟩).getD 0])) = _
  rw [kind_eq, stampOf_eq h W]
  unfold outStamp
  by_cases c : kindOk kind = false
  · rw [if_pos c, if_pos c]
    rfl
  · rw [if_neg c, if_neg c]
    have hk : kindOk kind = true := by simpa using c
    by_cases d : 0 ≤ number
    · rw [stampZ_is W hk d]
      by_cases e : 0 < stampM m ⟨kind.toNat, number.toNat⟩
      · rw [if_pos e, if_neg (show ¬ stampM m ⟨kind.toNat, number.toNat⟩ = 0 by omega), if_neg (by simp [d])]
        rfl
      · rw [if_neg e, if_pos (show stampM m ⟨kind.toNat, number.toNat⟩ = 0 by omega), if_pos (by simp)]
        rfl
    · rw [stampZ_neg W d, if_pos rfl, if_pos (by simp [d])]
      rfl
theorem hasObj_is (W : Wf m) (z : Int) : hasObj m z = (decide (0 ≤ z) && m.living z.toNat) := by
  unfold hasObj
  rw [Bool.eq_iff_iff, Bool.and_eq_true, Bool.and_eq_true, Bool.and_eq_true, decide_eq_true_eq, decide_eq_true_eq, decide_eq_true_eq]
  constructor
  · rintro ⟨a, b, c⟩
    exact ⟨by omega, c⟩
  · rintro ⟨a, c⟩
    have := W.lv _ c
    have := W.most
    exact ⟨by omega, by omega, c⟩
theorem code_pair (v : Value) : valueCode v = pairI v := by
  cases v <;> rfl
theorem out_object (h : R m s) (W : Wf m) (number : Int) : step s (.object number) = (s, outObject m number) := by
  show (if inRange 1 1 2 = false then fail s (-1) else if (decide (0 ≤ number) && exists_ s number.toNat) = false then fail s (-6)
    else (s, ((fieldsOf s number.toNat).length : Int) :: (fieldsOf s number.toNat).flatMap valueCode)) = _
  rw [if_neg (by decide), h.exists W, ← hasObj_is W, h.fields W]
  unfold outObject pairsFlat
  rw [show valueCode = pairI from funext code_pair]
  by_cases c : hasObj m number = false
  · rw [if_pos c, if_pos c]
    rfl
  · rw [if_neg c, if_neg c]
theorem out_slots (h : R m s) : step s .slots = (s, pairsFlat m.slots) := by
  show (s, s.slots.flatMap valueCode) = _
  rw [h.slots, show valueCode = pairI from funext code_pair]
  rfl
theorem out_status (h : R m s) : step s .status = (s, outStatus m) := by
  show (s, toInts [s.made, s.objects.length, s.entries.length, s.imports.length, s.uses, s.surveys.length]) = _
  rw [h.objs, h.ents, h.imps, h.made, h.uses, h.survs, List.length_map, List.length_map, List.length_map]
  rfl

/-! ### paths -/
def keys (f : List Way) : List Value := f.map Prod.fst
def addS (f : List Way) (p : Way) : List Way := if p.1 ≠ .nothing ∧ p.1 ∉ keys f then f ++ [p] else f
def stepsOf (rows : Nat → List Value) (p : Way) : List Way := (fieldsM rows p.1).zipIdx.map fun e => (e.1, p.2 ++ [e.2])
theorem addWays_is (f : List Way) (vs : List Value) (way : List Nat) : addWays f vs way = (vs.zipIdx.map fun e => ((e.1, way ++ [e.2]) : Way)).foldl addS f := by
  unfold addWays
  rw [List.foldl_map]
  rfl
theorem stepW_some {rows : Nat → List Value} {f : List Way} {i : Nat} {p : Way} (e : f[i]? = some p) : stepW rows f i = (stepsOf rows p).foldl addS f := by
  unfold stepW
  rw [e]
  exact addWays_is f _ _
theorem stepW_none {rows : Nat → List Value} {f : List Way} {i : Nat} (e : f.length ≤ i) : stepW rows f i = f := by
  unfold stepW
  rw [List.getElem?_eq_none e]
theorem mem_keys_addS {f : List Way} {p : Way} {x : Value} : x ∈ keys (addS f p) ↔ x ∈ keys f ∨ (x = p.1 ∧ x ≠ .nothing) := by
  unfold addS
  split
  · rename_i c
    unfold keys
    rw [List.map_append, List.mem_append]
    show _ ∨ x ∈ [p.1] ↔ _
    rw [List.mem_singleton]
    constructor
    · rintro (a | a)
      · exact .inl a
      · exact .inr ⟨a, by rw [a]; exact c.1⟩
    · rintro (a | a)
      · exact .inl a
      · exact .inr a.1
  · rename_i c
    constructor
    · exact .inl
    · rintro (a | ⟨rfl, b⟩)
      · exact a
      · exact Classical.byContradiction fun d => c ⟨b, d⟩
theorem nodup_addS {f : List Way} {p : Way} (h : (keys f).Nodup) : (keys (addS f p)).Nodup := by
  unfold addS
  split
  · rename_i c
    unfold keys at *
    rw [List.map_append, List.nodup_append]
    refine ⟨h, by simp, fun a ha b hb e => ?_⟩
    have hb' : b ∈ [p.1] := hb
    rw [List.mem_singleton] at hb'
    subst hb' e
    exact c.2 ha
  · exact h
theorem nodup_foldS : ∀ {l f : List Way}, (keys f).Nodup → (keys (l.foldl addS f)).Nodup
  | [], _, h => h
  | p :: l, f, h => nodup_foldS (l := l) (nodup_addS h)
theorem mem_foldS {x : Value} : ∀ {l f : List Way}, x ∈ keys (l.foldl addS f) ↔ x ∈ keys f ∨ (x ∈ keys l ∧ x ≠ .nothing)
  | [], f => by simp [keys]
  | p :: l, f => by
    rw [List.foldl_cons, mem_foldS, mem_keys_addS]
    show _ ↔ x ∈ keys f ∨ (x ∈ p.1 :: keys l ∧ _)
    rw [List.mem_cons]
    constructor
    · rintro ((a | a) | a)
      · exact .inl a
      · exact .inr ⟨.inl a.1, a.2⟩
      · exact .inr ⟨.inr a.1, a.2⟩
    · rintro (a | ⟨a | a, b⟩)
      · exact .inl (.inl a)
      · exact .inl (.inr ⟨a, b⟩)
      · exact .inr ⟨a, b⟩
theorem foldS_pre : ∀ (l f : List Way), ∃ new, l.foldl addS f = f ++ new
  | [], f => ⟨[], by simp⟩
  | p :: l, f => by
    obtain ⟨n, e⟩ := foldS_pre l (addS f p)
    rw [List.foldl_cons, e]
    unfold addS
    split
    · exact ⟨p :: n, by simp⟩
    · exact ⟨n, rfl⟩
def hit (goal : Value) (f : List Way) : Option Way := f.find? fun p => decide (p.1 = goal)
theorem hit_none {goal : Value} {f : List Way} (h : goal ∉ keys f) : hit goal f = none := by
  unfold hit
  rw [List.find?_eq_none]
  intro p hp q
  exact h (List.mem_map.mpr ⟨p, hp, by simpa using q⟩)
theorem hit_none_iff {goal : Value} {f : List Way} (h : hit goal f = none) : goal ∉ keys f := by
  unfold hit at h
  rw [List.find?_eq_none] at h
  intro q
  obtain ⟨p, hp, e⟩ := List.mem_map.mp q
  exact h p hp (by simpa using e)
theorem hit_append {goal : Value} {f g : List Way} : hit goal (f ++ g) = (hit goal f).or (hit goal g) := by
  unfold hit
  exact List.find?_append
theorem hit_foldS {goal : Value} (ng : goal ≠ .nothing) : ∀ {l f : List Way}, goal ∉ keys f → hit goal (l.foldl addS f) = hit goal l
  | [], f, h => by
    rw [List.foldl_nil, hit_none h]
    rfl
  | p :: l, f, h => by
    rw [List.foldl_cons]
    by_cases c : p.1 = goal
    · have e1 : hit goal (p :: l) = some p := by
        unfold hit
        rw [List.find?_cons_of_pos (by simpa using c)]
      have e2 : addS f p = f ++ [p] := if_pos ⟨by rw [c]; exact ng, by rw [c]; exact h⟩
      obtain ⟨n, e⟩ := foldS_pre l (addS f p)
      rw [e1, e, e2, List.append_assoc, hit_append, hit_none h]
      show hit goal ([p] ++ n) = some p
      unfold hit
      rw [List.singleton_append, List.find?_cons_of_pos (by simpa using c)]
    · have e1 : hit goal (p :: l) = hit goal l := by
        unfold hit
        rw [List.find?_cons_of_neg (by simpa using c)]
      rw [e1]
      refine hit_foldS ng fun q => ?_
      rcases mem_keys_addS.mp q with q | q
      · exact h q
      · exact c q.1.symm
/-- the specification's form of a step and of a place -/
def sw (p : Way) : List Nat × Value := (p.2, p.1)
def objPlace (rows : Nat → List Value) (p : Way) : Option Place := match p.1 with
  | .object n => some (p.2, rows n)
  | _ => none
def places (rows : Nat → List Value) (l : List Way) : List Place := l.filterMap (objPlace rows)
theorem next_places (h : R m s) (W : Wf m) : ∀ (l f : List Way) (found : List Nat), (∀ n, n ∈ found ↔ Value.object n ∈ keys f) →
    ∃ new, l.foldl addS f = f ++ new ∧ (nextPlaces s (l.map sw) found).1 = places m.rows new ∧ ∀ n, n ∈ (nextPlaces s (l.map sw) found).2 ↔ Value.object n ∈ keys (f ++ new)
  | [], f, found, hf => ⟨[], by simp, rfl, fun n => by rw [List.append_nil]; exact hf n⟩
  | (v, w) :: l, f, found, hf => by
    rw [List.foldl_cons, List.map_cons]
    cases v with
    | nothing =>
      have e : addS f (.nothing, w) = f := if_neg (fun q => q.1 rfl)
      rw [e]
      exact next_places h W l f found hf
    | foreign k =>
      by_cases c : Value.foreign k ∈ keys f
      · have e : addS f (.foreign k, w) = f := if_neg (fun q => q.2 c)
        rw [e]
        exact next_places h W l f found hf
      · have e : addS f (.foreign k, w) = f ++ [(.foreign k, w)] := if_pos ⟨by simp, c⟩
        rw [e]
        obtain ⟨new, e1, e2, e3⟩ := next_places h W l (f ++ [(.foreign k, w)]) found fun n => by
          rw [hf]
          unfold keys
          simp
        exact ⟨(.foreign k, w) :: new, by rw [e1, List.append_assoc]; rfl, e2, fun n => by rw [show f ++ (Value.foreign k, w) :: new = f ++ [(.foreign k, w)] ++ new by simp]; exact e3 n⟩
    | object k =>
      by_cases c : Value.object k ∈ keys f
      · have e : addS f (.object k, w) = f := if_neg (fun q => q.2 c)
        have e4 : nextPlaces s (sw (.object k, w) :: l.map sw) found = nextPlaces s (l.map sw) found := by
          show (if found.contains k = true then nextPlaces s (l.map sw) found else _) = _
          rw [if_pos (by simpa using (hf k).mpr c)]
        rw [e, e4]
        exact next_places h W l f found hf
      · have e : addS f (.object k, w) = f ++ [(.object k, w)] := if_pos ⟨by simp, c⟩
        have e4 : nextPlaces s (sw (.object k, w) :: l.map sw) found = ((w, fieldsOf s k) :: (nextPlaces s (l.map sw) (k :: found)).1, (nextPlaces s (l.map sw) (k :: found)).2) := by
          show (if found.contains k = true then nextPlaces s (l.map sw) found else _) = _
          rw [if_neg (fun q => c ((hf k).mp (by simpa using q)))]
          rfl
        rw [e, e4]
        obtain ⟨new, e1, e2, e3⟩ := next_places h W l (f ++ [(.object k, w)]) (k :: found) fun n => by
          rw [List.mem_cons, hf]
          unfold keys
          simp
          exact or_comm
        refine ⟨(.object k, w) :: new, by rw [e1, List.append_assoc]; rfl, ?_, fun n => ?_⟩
        · rw [e2, h.fields W]
          rfl
        · rw [show f ++ (Value.object k, w) :: new = f ++ [(.object k, w)] ++ new by simp]
          exact e3 n
theorem process (rows : Nat → List Value) : ∀ (pend f extra : List Way), (List.range' f.length pend.length).foldl (stepW rows) (f ++ pend ++ extra) = (pend.flatMap (stepsOf rows)).foldl addS (f ++ pend ++ extra)
  | [], f, extra => rfl
  | p :: pend, f, extra => by
    rw [List.length_cons, List.range'_succ, List.foldl_cons, List.flatMap_cons, List.foldl_append]
    have e : (f ++ p :: pend ++ extra)[f.length]? = some p := by
      rw [List.append_assoc, List.getElem?_append_right (Nat.le_refl _), Nat.sub_self]
      rfl
    rw [stepW_some e]
    obtain ⟨n, en⟩ := foldS_pre (stepsOf rows p) (f ++ p :: pend ++ extra)
    rw [en]
    have := process rows pend (f ++ [p]) (extra ++ n)
    rw [List.length_append] at this
    have e3 : f ++ p :: pend ++ extra ++ n = f ++ [p] ++ pend ++ (extra ++ n) := by simp
    rw [e3]
    exact this
theorem steps_from (rows : Nat → List Value) : ∀ pend : List Way, stepsFrom (places rows pend) = (pend.flatMap (stepsOf rows)).map sw
  | [] => rfl
  | (v, w) :: pend => by
    have ih := steps_from rows pend
    rw [List.flatMap_cons, List.map_append, ← ih]
    cases v with
    | nothing => rfl
    | foreign k => rfl
    | object k =>
      show stepsFrom ((w, rows k) :: places rows pend) = _
      unfold stepsFrom
      rw [List.flatMap_cons]
      congr 1
      unfold stepsOf
      rw [List.map_map]
      rfl
def fin (rows : Nat → List Value) (g : List Way) (i : Nat) : List Way := (List.range' i (60 - i)).foldl (stepW rows) g
theorem fold_out (rows : Nat → List Value) (g : List Way) : ∀ (n i : Nat), g.length ≤ i → (List.range' i n).foldl (stepW rows) g = g
  | 0, _, _ => rfl
  | n + 1, i, h => by
    rw [List.range'_succ, List.foldl_cons, stepW_none h]
    exact fold_out rows g n (i + 1) (by omega)
theorem fin_end (rows : Nat → List Value) (g : List Way) : fin rows g g.length = g := fold_out rows g _ _ (Nat.le_refl _)
theorem fin_level (rows : Nat → List Value) (f pend : List Way) (h : (f ++ pend).length ≤ 60) : fin rows (f ++ pend) f.length = fin rows ((pend.flatMap (stepsOf rows)).foldl addS (f ++ pend)) (f ++ pend).length := by
  unfold fin
  rw [List.length_append] at h ⊢
  have e : 60 - f.length = pend.length + (60 - (f.length + pend.length)) := by omega
  rw [e, ← List.range'_append_1, List.foldl_append]
  have := process rows pend f []
  rw [List.append_nil] at this
  rw [this]
def specNext (s : State) (goal : Value) (levels : Nat) (steps : List (List Nat × Value)) (found : List Nat) : Option (List Nat) :=
  match steps.find? fun step => step.2 == goal with
  | some step => some step.1
  | none => if (nextPlaces s steps found).1 = [] then none else searchFrom s goal levels (nextPlaces s steps found).1 (nextPlaces s steps found).2
theorem search_succ (s : State) (goal : Value) (levels : Nat) (ps : List Place) (found : List Nat) : searchFrom s goal (levels + 1) ps found = specNext s goal levels (stepsFrom ps) found := by
  unfold specNext
  rw [searchFrom]
  rfl
theorem find_sw (goal : Value) : ∀ l : List Way, (l.map sw).find? (fun step => step.2 == goal) = (hit goal l).map sw
  | [] => rfl
  | p :: l => by
    have ih := find_sw goal l
    unfold hit at ih ⊢
    by_cases c : p.1 = goal
    · rw [List.map_cons, List.find?_cons_of_pos (by simpa [sw] using c), List.find?_cons_of_pos (by simpa using c)]
      rfl
    · rw [List.map_cons, List.find?_cons_of_neg (by simpa [sw] using c), List.find?_cons_of_neg (by simpa using c)]
      exact ih
theorem fin_pre (rows : Nat → List Value) (g : List Way) (i : Nat) : ∃ more, fin rows g i = g ++ more := by
  unfold fin
  generalize List.range' i (60 - i) = l
  induction l generalizing g with
  | nil => exact ⟨[], by simp⟩
  | cons a l ih =>
    rw [List.foldl_cons]
    have : ∃ n, stepW rows g a = g ++ n := by
      cases e : g[a]? with
      | none => exact ⟨[], by rw [stepW_none (List.getElem?_eq_none_iff.mp e)]; simp⟩
      | some p =>
        rw [stepW_some e]
        exact foldS_pre _ _
    obtain ⟨n, en⟩ := this
    obtain ⟨k, ek⟩ := ih (stepW rows g a)
    exact ⟨n ++ k, by rw [ek, en, List.append_assoc]⟩
theorem keys_univ (W : Wf m) {f : List Way} (nd : (keys f).Nodup) (ok : ∀ x ∈ keys f, okV m x ∧ x ≠ .nothing) : f.length ≤ 60 := by
  have := len_le_of_subset nd fun x hx => W.univ (ok x hx).1 (ok x hx).2
  rw [univ_len] at this
  unfold keys at this
  rw [List.length_map] at this
  exact this
def objs (f : List Way) : List Nat := objectsIn (keys f)
theorem objs_le (h : R m s) (W : Wf m) {f : List Way} (nd : (keys f).Nodup) (ok : ∀ x ∈ keys f, okV m x ∧ x ≠ .nothing) : (objs f).length ≤ s.objects.length := by
  rw [h.objs, List.length_map]
  refine len_le_of_subset (nodup_objectsIn nd) fun n hn => ?_
  have := (ok _ (mem_objectsIn.mp hn)).1
  exact (mem_objectsNow W).mpr this
theorem search_eq (h : R m s) (W : Wf m) {goal : Value} (ng : goal ≠ .nothing) : ∀ (levels : Nat) (f steps : List Way) (found : List Nat),
    (keys f).Nodup → (∀ x ∈ keys f, okV m x ∧ x ≠ .nothing) → (∀ x ∈ keys steps, okV m x) → goal ∉ keys f → (∀ n, n ∈ found ↔ Value.object n ∈ keys f) → s.objects.length ≤ levels + (objs f).length →
      specNext s goal levels (steps.map sw) found = (hit goal (fin m.rows (steps.foldl addS f) f.length)).map fun p => p.2 := by
  intro levels
  induction levels with
  | zero => ?z
  | succ levels ih => ?s
  all_goals
    intro f steps found nd ok oks hg hf hfuel
    obtain ⟨new, e1, e2, e3⟩ := next_places h W steps f found hf
    have nd' : (keys (f ++ new)).Nodup := by
      rw [← e1]
      exact nodup_foldS nd
    have ok' : ∀ x ∈ keys (f ++ new), okV m x ∧ x ≠ .nothing := by
      intro x hx
      rw [← e1] at hx
      rcases mem_foldS.mp hx with q | q
      · exact ok x q
      · exact ⟨oks x q.1, q.2⟩
    have few := keys_univ W nd' ok'
    unfold specNext
    rw [find_sw, e1]
    have hh : hit goal (f ++ new) = hit goal steps := by
      rw [← e1]
      exact hit_foldS ng hg
    cases q : hit goal steps with
    | some p =>
      obtain ⟨more, em⟩ := fin_pre m.rows (f ++ new) f.length
      rw [em, hit_append, hh, q]
      rfl
    | none =>
      rw [q] at hh
      have hg' := hit_none_iff hh
      show (if (nextPlaces s (steps.map sw) found).1 = [] then none else searchFrom s goal _ (nextPlaces s (steps.map sw) found).1 (nextPlaces s (steps.map sw) found).2) = _
      rw [fin_level m.rows f new few]
      by_cases c : (nextPlaces s (steps.map sw) found).1 = []
      · rw [if_pos c]
        rw [e2] at c
        have es : new.flatMap (stepsOf m.rows) = [] := by
          have := steps_from m.rows new
          rw [c] at this
          exact List.map_eq_nil_iff.mp this.symm
        rw [es, List.foldl_nil, fin_end, hh]
        rfl
      · rw [if_neg c]
        have pos : 0 < (objs new).length := by
          rw [e2] at c
          obtain ⟨pl, hpl⟩ := List.exists_mem_of_ne_nil _ c
          obtain ⟨p, hp, ep⟩ := List.mem_filterMap.mp hpl
          unfold objPlace at ep
          cases v : p.1 with
          | nothing =>
            rw [v] at ep
            cases ep
          | foreign k =>
            rw [v] at ep
            cases ep
          | object k => exact List.length_pos_of_mem (mem_objectsIn.mpr (List.mem_map.mpr ⟨p, hp, v⟩))
        have cnt : (objs (f ++ new)).length = (objs f).length + (objs new).length := by
          unfold objs keys objectsIn
          rw [List.map_append, List.filterMap_append, List.length_append]
        have le := objs_le h W nd' ok'
        first
        | omega
        | rw [search_succ, e2, steps_from]
          have oks' : ∀ x ∈ keys (new.flatMap (stepsOf m.rows)), okV m x := by
            intro x hx
            obtain ⟨p, hp, rfl⟩ := List.mem_map.mp hx
            obtain ⟨r, hr, hp2⟩ := List.mem_flatMap.mp hp
            unfold stepsOf at hp2
            obtain ⟨e, he, rfl⟩ := List.mem_map.mp hp2
            have he1 : e.1 ∈ fieldsM m.rows r.1 := by
              have := List.mem_zipIdx_iff_getElem?.mp he
              exact List.mem_of_getElem? this
            cases v : r.1 with
            | nothing =>
              rw [v] at he1
              cases he1
            | foreign k =>
              rw [v] at he1
              cases he1
            | object k =>
              rw [v] at he1
              exact W.rOk k _ he1
          exact ih (f ++ new) (new.flatMap (stepsOf m.rows)) _ nd' ok' oks' hg' e3 (by omega)
theorem valueOf_ne (name : Name) : valueOf name ≠ .nothing := by
  unfold valueOf
  split <;> simp
theorem path_eq (h : R m s) (W : Wf m) (source : Nat) (name : Name) : pathTo s source name = (hit (valueOf name) (ways m.rows (if source = 0 then m.slots else m.rows source))).map fun p => p.2 := by
  unfold pathTo
  rw [h.slots, h.fields W, search_succ]
  have e : stepsFrom [([], if source = 0 then m.slots else m.rows source)] = (((if source = 0 then m.slots else m.rows source).zipIdx.map fun e => ((e.1, [] ++ [e.2]) : Way)).map sw) := by
    unfold stepsFrom
    rw [List.flatMap_cons, List.flatMap_nil, List.append_nil, List.map_map]
    rfl
  rw [e]
  have key := search_eq h W (valueOf_ne name) s.objects.length [] ((if source = 0 then m.slots else m.rows source).zipIdx.map fun e => ((e.1, [] ++ [e.2]) : Way)) [] (by simp [keys]) (by simp [keys]) (fun x hx => by
    obtain ⟨p, hp, rfl⟩ := List.mem_map.mp hx
    obtain ⟨e, he, rfl⟩ := List.mem_map.mp hp
    have he1 : e.1 ∈ (if source = 0 then m.slots else m.rows source) := by
      have := List.mem_zipIdx_iff_getElem?.mp he
      exact List.mem_of_getElem? this
    split at he1
    · exact W.sOk _ he1
    · exact W.rOk _ _ he1) (by simp [keys]) (by simp [keys]) (by omega)
  rw [key]
  unfold ways fin
  rw [addWays_is]
  show _ = Option.map _ (hit _ ((List.range 60).foldl _ _))
  rw [List.range_eq_range']
  rfl
theorem hit_ne {rows : Nat → List Value} {first : List Value} {goal : Value} {p : Way} (e : hit goal (ways rows first) = some p) : p.2 ≠ [] := by
  unfold hit at e
  have hp := List.mem_of_find?_eq_some e
  have one : ∀ (l f : List Way), (∀ q ∈ f, q.2 ≠ []) → (∀ q ∈ l, q.2 ≠ []) → ∀ q ∈ l.foldl addS f, q.2 ≠ [] := by
    intro l
    induction l with
    | nil => exact fun f hf _ => hf
    | cons a l ih =>
      intro f hf hl
      refine ih _ (fun q hq => ?_) fun q hq => hl q (List.mem_cons_of_mem _ hq)
      unfold addS at hq
      split at hq
      · rcases List.mem_append.mp hq with r | r
        · exact hf q r
        · rw [List.mem_singleton] at r
          subst r
          exact hl q (List.mem_cons_self ..)
      · exact hf q hq
  have two : ∀ (l : List Nat) (f : List Way), (∀ q ∈ f, q.2 ≠ []) → ∀ q ∈ l.foldl (stepW rows) f, q.2 ≠ [] := by
    intro l
    induction l with
    | nil => exact fun f hf => hf
    | cons a l ih =>
      intro f hf
      refine ih _ fun q hq => ?_
      cases e : f[a]? with
      | none =>
        rw [stepW_none (List.getElem?_eq_none_iff.mp e)] at hq
        exact hf q hq
      | some r =>
        rw [stepW_some e] at hq
        refine one _ _ hf (fun q hq => ?_) q hq
        unfold stepsOf at hq
        obtain ⟨x, _, rfl⟩ := List.mem_map.mp hq
        simp
  unfold ways at hp
  refine two _ _ (fun q hq => ?_) p hp
  rw [addWays_is] at hq
  refine one _ _ (fun q hq => by cases hq) (fun q hq => ?_) q hq
  obtain ⟨x, _, rfl⟩ := List.mem_map.mp hq
  simp
theorem kind_val {k z : Int} (hk : kindOk k = true) : valueOf ⟨k.toNat, z.toNat⟩ = valueZ k z := by
  unfold kindOk at hk
  rw [Bool.or_eq_true, decide_eq_true_eq, decide_eq_true_eq] at hk
  rcases hk with e | e <;> subst e <;> rfl
theorem source_eq (h : R m s) (W : Wf m) (z : Int) : (z == 0 || (decide (0 ≤ z) && isEntry s z.toNat)) = isSource m z := by
  rw [h.entry W, stamp1 W]
  unfold isSource
  congr 1
  rw [Bool.eq_iff_iff, decide_eq_true_eq, decide_eq_true_eq]
  omega
theorem target_eq (h : R m s) (W : Wf m) {k z : Int} (hk : kindOk k = true) : (decide (0 ≤ z) && (if k.toNat = 1 then exists_ s z.toNat else isImport s z.toNat)) = isTarget m k z := by
  have hk0 := hk
  unfold kindOk at hk
  rw [Bool.or_eq_true, decide_eq_true_eq, decide_eq_true_eq] at hk
  unfold isTarget
  rcases hk with e | e
  · subst e
    rw [if_pos (show (1 : Int).toNat = 1 from rfl), if_pos rfl, h.exists W, hasObj_is W]
  · subst e
    rw [if_neg (by decide), if_neg (by decide), h.importIs W]
    by_cases d : 0 ≤ z
    · rw [stampZ_is W hk0 d, decide_eq_true d, Bool.true_and]
      rfl
    · rw [stampZ_neg W d, decide_eq_false d, Bool.false_and]
      rfl
theorem firstPath_is (m : M) (source : Nat) (target : Value) : firstPath m source target = ((hit target (ways m.rows (if source = 0 then m.slots else m.rows source))).map fun p => p.2).getD [] := by
  unfold firstPath hit
  generalize ways m.rows (if source = 0 then m.slots else m.rows source) = l
  cases l.find? (fun p => decide (p.1 = target)) <;> rfl
theorem out_path (h : R m s) (W : Wf m) (source kind number : Int) : step s (.path source kind number) = (s, outPath m source kind number) := by
  show (if inRange kind 1 2 = false then fail s (-1)
    else if (source == 0 || (decide (0 ≤ source) && isEntry s source.toNat)) = false then fail s (-6)
    else if inRange kind 1 2 = false then fail s (-1)
    else if (decide (0 ≤ number) && (if kind.toNat = 1 then exists_ s number.toNat else isImport s number.toNat)) = false then fail s (-6)
    else (s, match pathTo s source.toNat ⟨kind.toNat, number.toNat⟩ with
        | none => [0]
        | some path => 1 :: counted path)) = _
  rw [kind_eq, source_eq h W]
  unfold outPath
  by_cases c : kindOk kind = false
  · rw [if_pos c, if_pos c]
    rfl
  · rw [if_neg c, if_neg c]
    have hk : kindOk kind = true := by simpa using c
    rw [target_eq h W hk, if_neg c]
    by_cases d : isSource m source = false
    · rw [if_pos d, if_pos (by rw [d]; rfl)]
      rfl
    · rw [if_neg d]
      have d' : isSource m source = true := by simpa using d
      rw [d', Bool.true_and]
      by_cases e : isTarget m kind number = false
      · rw [if_pos e, if_pos e]
        rfl
      · rw [if_neg e, if_neg e, path_eq h W, kind_val hk]
        rw [firstPath_is]
        cases q : hit (valueZ kind number) (ways m.rows (if source.toNat = 0 then m.slots else m.rows source.toNat)) with
        | none => rfl
        | some p =>
          have ne := hit_ne q
          obtain ⟨v, w⟩ := p
          cases w with
          | nil => exact absurd rfl ne
          | cons a b => rfl

/-! ### all operations -/
theorem good_step (h : R m s) (W : Wf m) (c : Call) : Good (opM m c) (step s c) := by
  have still : ∀ l, step s c = (s, l) → opM m c = (m, l) → Good (opM m c) (step s c) := fun l e1 e2 => by
    rw [e1, e2]
    exact ⟨rfl, h, W⟩
  cases c with
  | create a b => exact good_create h W a b
  | copy a b => exact good_copy h W a b
  | clear a => exact good_clear h W a
  | read a b c => exact good_read h W a b c
  | write a b c => exact good_write h W a b c
  | exportValue a => exact good_export h W a
  | arrive a b => exact good_arrive h W a b
  | importReference a b => exact good_import h W a b
  | retire a => exact good_retire h W a
  | collect => exact good_collect h W
  | update => exact good_update h W
  | survey a => exact still _ (out_survey h a) rfl
  | isCurrent a b c => exact still _ (out_current h W a b c) rfl
  | lines => exact still _ (out_lines h W) rfl
  | affected => exact still _ (out_affected h W) rfl
  | path a b c => exact still _ (out_path h W a b c) rfl
  | stamp a b => exact still _ (out_stamp h W a b) rfl
  | object a => exact still _ (out_object h W a) rfl
  | slots => exact still _ (out_slots h) rfl
  | status => exact still _ (out_status h) rfl
theorem start_wf : Wf M.start where
  six := rfl
  most := by decide
  lv := fun n hn => by cases hn
  dead := fun _ _ => rfl
  four := fun _ => Nat.zero_le _
  ent := fun n hn => absurd hn (Nat.lt_irrefl 0)
  imp := fun n hn => absurd hn (Nat.lt_irrefl 0)
  sOk := fun v hv => by
    rw [(List.mem_replicate.mp hv).2]
    exact True.intro
  rOk := fun n v hv => by cases hv
  ledOk := fun _ => ⟨Nat.zero_le _, fun x hx => by cases hx⟩
  surv := by decide
  lns := fun ls hls => by cases hls
theorem start_rel : R M.start initialState where
  objs := rfl
  made := rfl
  slots := rfl
  ents := rfl
  imps := rfl
  uses := rfl
  survs := rfl
  chg := fun n => by
    show n ∈ ([] : List Nat) ↔ false = true
    simp
  slc := rfl
  recS := fun q => absurd rfl q
  recT := fun q => by cases q
  recN := fun n => ⟨fun _ => .inl rfl, fun _ => rfl⟩
  recE := fun n r e => by cases e
end
end Sv
end
section
/-! # The list of calls, one behind another -/
namespace Sv
open Vbxlaf

def sizes : List Nat := [2, 2, 1, 3, 3, 1, 2, 2, 1, 0, 0, 1, 3, 0, 0, 3, 2, 1, 0, 0]
/-- the call of a place and its numbers -/
def callN (p : Nat) (g : List Int) : Call := match p with
  | 0 => .create (g.getD 0 0) (g.getD 1 0)
  | 1 => .copy (g.getD 0 0) (g.getD 1 0)
  | 2 => .clear (g.getD 0 0)
  | 3 => .read (g.getD 0 0) (g.getD 1 0) (g.getD 2 0)
  | 4 => .write (g.getD 0 0) (g.getD 1 0) (g.getD 2 0)
  | 5 => .exportValue (g.getD 0 0)
  | 6 => .arrive (g.getD 0 0) (g.getD 1 0)
  | 7 => .importReference (g.getD 0 0) (g.getD 1 0)
  | 8 => .retire (g.getD 0 0)
  | 9 => .collect
  | 10 => .update
  | 11 => .survey (g.getD 0 0)
  | 12 => .isCurrent (g.getD 0 0) (g.getD 1 0) (g.getD 2 0)
  | 13 => .lines
  | 14 => .affected
  | 15 => .path (g.getD 0 0) (g.getD 1 0) (g.getD 2 0)
  | 16 => .stamp (g.getD 0 0) (g.getD 1 0)
  | 17 => .object (g.getD 0 0)
  | 18 => .slots
  | _ => .status
theorem shape_is {p : Int} {n k : Nat} (h : PyVbxlaf.shape p = some (n, k)) : k = 0 ∧ 0 ≤ p ∧ p < 20 ∧ sizes[p.toNat]? = some n := by
  unfold PyVbxlaf.shape at h
  by_cases c0 : p = 0
  · subst c0; cases h; exact ⟨rfl, by decide, by decide, rfl⟩
  rw [if_neg c0] at h
  by_cases c1 : p = 1
  · subst c1; cases h; exact ⟨rfl, by decide, by decide, rfl⟩
  rw [if_neg c1] at h
  by_cases c2 : p = 2
  · subst c2; cases h; exact ⟨rfl, by decide, by decide, rfl⟩
  rw [if_neg c2] at h
  by_cases c3 : p = 3
  · subst c3; cases h; exact ⟨rfl, by decide, by decide, rfl⟩
  rw [if_neg c3] at h
  by_cases c4 : p = 4
  · subst c4; cases h; exact ⟨rfl, by decide, by decide, rfl⟩
  rw [if_neg c4] at h
  by_cases c5 : p = 5
  · subst c5; cases h; exact ⟨rfl, by decide, by decide, rfl⟩
  rw [if_neg c5] at h
  by_cases c6 : p = 6
  · subst c6; cases h; exact ⟨rfl, by decide, by decide, rfl⟩
  rw [if_neg c6] at h
  by_cases c7 : p = 7
  · subst c7; cases h; exact ⟨rfl, by decide, by decide, rfl⟩
  rw [if_neg c7] at h
  by_cases c8 : p = 8
  · subst c8; cases h; exact ⟨rfl, by decide, by decide, rfl⟩
  rw [if_neg c8] at h
  by_cases c9 : p = 9
  · subst c9; cases h; exact ⟨rfl, by decide, by decide, rfl⟩
  rw [if_neg c9] at h
  by_cases c10 : p = 10
  · subst c10; cases h; exact ⟨rfl, by decide, by decide, rfl⟩
  rw [if_neg c10] at h
  by_cases c11 : p = 11
  · subst c11; cases h; exact ⟨rfl, by decide, by decide, rfl⟩
  rw [if_neg c11] at h
  by_cases c12 : p = 12
  · subst c12; cases h; exact ⟨rfl, by decide, by decide, rfl⟩
  rw [if_neg c12] at h
  by_cases c13 : p = 13
  · subst c13; cases h; exact ⟨rfl, by decide, by decide, rfl⟩
  rw [if_neg c13] at h
  by_cases c14 : p = 14
  · subst c14; cases h; exact ⟨rfl, by decide, by decide, rfl⟩
  rw [if_neg c14] at h
  by_cases c15 : p = 15
  · subst c15; cases h; exact ⟨rfl, by decide, by decide, rfl⟩
  rw [if_neg c15] at h
  by_cases c16 : p = 16
  · subst c16; cases h; exact ⟨rfl, by decide, by decide, rfl⟩
  rw [if_neg c16] at h
  by_cases c17 : p = 17
  · subst c17; cases h; exact ⟨rfl, by decide, by decide, rfl⟩
  rw [if_neg c17] at h
  by_cases c18 : p = 18
  · subst c18; cases h; exact ⟨rfl, by decide, by decide, rfl⟩
  rw [if_neg c18] at h
  by_cases c19 : p = 19
  · subst c19; cases h; exact ⟨rfl, by decide, by decide, rfl⟩
  rw [if_neg c19] at h
  cases h
theorem len0 {l : List Int} (h : l.length = 0) : l = [] := List.eq_nil_of_length_eq_zero h
theorem len1 {l : List Int} (h : l.length = 1) : ∃ a, l = [a] := List.length_eq_one_iff.mp h
theorem len2 {l : List Int} (h : l.length = 2) : ∃ a b, l = [a, b] := by
  cases l with
  | nil => cases h
  | cons a l =>
    obtain ⟨b, e⟩ := len1 (l := l) (by simpa using h)
    exact ⟨a, b, by rw [e]⟩
theorem len3 {l : List Int} (h : l.length = 3) : ∃ a b c, l = [a, b, c] := by
  cases l with
  | nil => cases h
  | cons a l =>
    obtain ⟨b, c, e⟩ := len2 (l := l) (by simpa using h)
    exact ⟨a, b, c, by rw [e]⟩
theorem call_is {p : Int} {n : Nat} {g : List Int} (h0 : 0 ≤ p) (h1 : p < 20) (hs : sizes[p.toNat]? = some n) (hg : g.length = n) : VbxlafNeutral.callOf (PyVbxlaf.whole [p :: g]) = some (callN p.toNat g) := by
  obtain ⟨k, rfl⟩ : ∃ k : Nat, p = (k : Int) := ⟨p.toNat, by omega⟩
  have hk : k < 20 := by omega
  rw [Int.toNat_natCast] at hs ⊢
  rcases k with _ | _ | _ | _ | _ | _ | _ | _ | _ | _ | _ | _ | _ | _ | _ | _ | _ | _ | _ | _ | k
  case' succ => exact absurd hk (by omega)
  all_goals
    have hn : _ = n := Option.some.inj hs
    subst hn
    first
    | (have e := len0 hg; subst e; rfl)
    | (obtain ⟨a, e⟩ := len1 hg; subst e; rfl)
    | (obtain ⟨a, b, e⟩ := len2 hg; subst e; rfl)
    | (obtain ⟨a, b, c, e⟩ := len3 hg; subst e; rfl)
theorem calls_cons {f : Nat} {p : Int} {r : List Int} {cs : List (List (List Int))} (h : PyFlat.calls PyVbxlaf.shape f (p :: r) = some cs) :
    ∃ n f' cs', 0 ≤ p ∧ p < 20 ∧ sizes[p.toNat]? = some n ∧ n ≤ r.length ∧ cs = [p :: r.take n] :: cs' ∧ PyFlat.calls PyVbxlaf.shape f' (r.drop n) = some cs' := by
  cases f with
  | zero => cases h
  | succ f =>
    rw [PyFlat.calls] at h
    unfold PyFlat.call at h
    cases e : PyVbxlaf.shape p with
    | none =>
      simp only [e] at h
      cases h
    | some nk =>
      obtain ⟨n, k⟩ := nk
      obtain ⟨rfl, h0, h1, hs⟩ := shape_is e
      simp only [e] at h
      by_cases c : r.length < n
      · rw [if_pos c] at h
        cases h
      · rw [if_neg c] at h
        have h' : (match PyFlat.calls PyVbxlaf.shape f (r.drop n) with | none => none | some cs => some ([p :: r.take n] :: cs)) = some cs := h
        cases q : PyFlat.calls PyVbxlaf.shape f (r.drop n) with
        | none =>
          rw [q] at h'
          cases h'
        | some cs' =>
          rw [q] at h'
          exact ⟨n, f, cs', h0, h1, hs, by omega, (Option.some.inj h').symm, q⟩
/-- behind the numbers up to a: the mirror's state is m, told is what has been told -/
structure Upto (l : List Int) (a : Nat) (m : M) (out : List Int) : Prop where
  wf : Wf m
  le : a ≤ l.length
  rest : ∃ f cs s, PyFlat.calls PyVbxlaf.shape f (l.drop a) = some cs ∧ R m s ∧ out ++ PyFlat.told (PyFlat.played VbxlafNeutral.step s (cs.map PyVbxlaf.whole)) = PyVbxlaf.answers l
theorem upto_start {l : List Int} (h : PyVbxlaf.answers_asked l = true) : Upto l 0 M.start [] := by
  refine ⟨start_wf, Nat.zero_le _, ?_⟩
  unfold PyVbxlaf.answers_asked at h
  unfold PyVbxlaf.answers PyVbxlaf.calls
  cases e : PyFlat.calls PyVbxlaf.shape l.length l with
  | none =>
    rw [e] at h
    cases h
  | some raw => exact ⟨l.length, raw, VbxlafNeutral.start, e, start_rel, rfl⟩
theorem upto_end {l : List Int} {a : Nat} {m : M} {out : List Int} (h : Upto l a m out) (c : ¬ a < l.length) : out = PyVbxlaf.answers l := by
  obtain ⟨f, cs, s, h1, _, h3⟩ := h.rest
  rw [List.drop_eq_nil_of_le (by omega)] at h1
  have : cs = [] := by
    cases f <;> cases h1 <;> rfl
  subst this
  rw [← h3]
  show out = out ++ []
  rw [List.append_nil]
theorem asked_len {l : List Int} (h : PyVbxlaf.answers_asked l = true) : (PyVbxlaf.answers l).length ≤ 10000000 := by
  unfold PyVbxlaf.answers_asked at h
  cases e : PyFlat.calls PyVbxlaf.shape l.length l with
  | none =>
    rw [e] at h
    cases h
  | some raw =>
    rw [e] at h
    have h' : (!raw.isEmpty && PyFlat.atMost 200 raw && PyInside.calls PyVbxlaf.bound raw && VbxlafNeutral.asked (raw.map PyVbxlaf.whole) && PyFlat.short 10000000 (PyVbxlaf.answers l)) = true := h
    rw [Bool.and_eq_true] at h'
    exact of_decide_eq_true h'.2
theorem upto_len {l : List Int} {a : Nat} {m : M} {out : List Int} (h : Upto l a m out) (q : PyVbxlaf.answers_asked l = true) : out.length ≤ 10000000 := by
  obtain ⟨f, cs, s, h1, _, h3⟩ := h.rest
  have := asked_len q
  rw [← h3, List.length_append] at this
  omega
theorem upto_turn {l : List Int} {a : Nat} {m : M} {out : List Int} (h : Upto l a m out) (c : a < l.length) :
    ∃ (p : Int) (n : Nat) (g : List Int), l[a]? = some p ∧ 0 ≤ p ∧ p < 20 ∧ sizes[p.toNat]? = some n ∧ g = (l.drop (a + 1)).take n ∧ g.length = n ∧
      Upto l (a + 1 + n) (opM m (callN p.toNat g)).1 (out ++ ((opM m (callN p.toNat g)).2.length : Int) :: (opM m (callN p.toNat g)).2) := by
  obtain ⟨f, cs, s, h1, hR, h3⟩ := h.rest
  rw [List.drop_eq_getElem_cons c] at h1
  obtain ⟨n, f', cs', p0, p1, hs, hn, ec, h5⟩ := calls_cons h1
  have hg : ((l.drop (a + 1)).take n).length = n := by
    rw [List.length_take]
    omega
  refine ⟨l[a], n, _, List.getElem?_eq_getElem c, p0, p1, hs, rfl, hg, ?_⟩
  have G := good_step hR h.wf (callN (l[a]).toNat ((l.drop (a + 1)).take n))
  refine ⟨G.wf, ?_, f', cs', _, ?_, G.rel, ?_⟩
  · rw [List.length_drop] at hn
    omega
  · rw [List.drop_drop] at h5
    exact h5
  · subst ec
    rw [← h3, G.out]
    have e : VbxlafNeutral.step s (PyVbxlaf.whole [l[a] :: (l.drop (a + 1)).take n]) = Vbxlaf.step s (callN (l[a]).toNat ((l.drop (a + 1)).take n)) := by
      unfold VbxlafNeutral.step
      rw [call_is p0 p1 hs hg]
    rw [List.map_cons]
    show _ = out ++ PyFlat.told ((VbxlafNeutral.step s (PyVbxlaf.whole [l[a] :: (l.drop (a + 1)).take n])).2 :: PyFlat.played VbxlafNeutral.step (VbxlafNeutral.step s (PyVbxlaf.whole [l[a] :: (l.drop (a + 1)).take n])).1 (cs'.map PyVbxlaf.whole))
    rw [e]
    unfold PyFlat.told
    rw [List.flatMap_cons, List.append_assoc]
end Sv
end
section
set_option maxHeartbeats 4000000
namespace Sw
open PySem PySem.Spec PyProof.Rows L2

/-! ### the text -/
def topS (i : Nat) : Stmt := PySem.Challenge.pw_surveyline_s01_answers.main.body.getD i (.Pass ⟨0, 0, 0, 0⟩)
abbrev s_is_slot : Stmt := (topS 16)
theorem sc_is_slot : FnScope ["number"] ["number"] (defScope s_is_slot) := ⟨rfl, rfl, rfl, by decide +kernel, rfl, by decide +kernel, by decide +kernel⟩
abbrev s_is_field_count : Stmt := (topS 17)
theorem sc_is_field_count : FnScope ["number"] ["number"] (defScope s_is_field_count) := ⟨rfl, rfl, rfl, by decide +kernel, rfl, by decide +kernel, by decide +kernel⟩
abbrev s_is_field : Stmt := (topS 18)
theorem sc_is_field : FnScope ["number"] ["number"] (defScope s_is_field) := ⟨rfl, rfl, rfl, by decide +kernel, rfl, by decide +kernel, by decide +kernel⟩
abbrev s_is_foreign : Stmt := (topS 19)
theorem sc_is_foreign : FnScope ["number"] ["number"] (defScope s_is_foreign) := ⟨rfl, rfl, rfl, by decide +kernel, rfl, by decide +kernel, by decide +kernel⟩
abbrev s_is_kind : Stmt := (topS 20)
theorem sc_is_kind : FnScope ["number"] ["number"] (defScope s_is_kind) := ⟨rfl, rfl, rfl, by decide +kernel, rfl, by decide +kernel, by decide +kernel⟩
abbrev s_fields_of : Stmt := (topS 22)
theorem sc_fields_of : FnScope ["heap", "value"] ["heap", "value"] (defScope s_fields_of) := ⟨rfl, rfl, rfl, by decide +kernel, rfl, by decide +kernel, by decide +kernel⟩
abbrev s_add_new : Stmt := (topS 23)
theorem sc_add_new : FnScope ["found", "values", "value"] ["found", "values"] (defScope s_add_new) := ⟨rfl, rfl, rfl, by decide +kernel, rfl, by decide +kernel, by decide +kernel⟩
abbrev s_reached : Stmt := (topS 24)
theorem sc_reached : FnScope ["heap", "seeds", "found", "at"] ["heap", "seeds"] (defScope s_reached) := ⟨rfl, rfl, rfl, by decide +kernel, rfl, by decide +kernel, by decide +kernel⟩
abbrev s_led_by : Stmt := (topS 25)
theorem sc_led_by : FnScope ["heap", "source"] ["heap", "source"] (defScope s_led_by) := ⟨rfl, rfl, rfl, by decide +kernel, rfl, by decide +kernel, by decide +kernel⟩
abbrev s_objects_led : Stmt := (topS 26)
theorem sc_objects_led : FnScope ["heap", "source", "value"] ["heap", "source"] (defScope s_objects_led) := ⟨rfl, rfl, rfl, by decide +kernel, rfl, by decide +kernel, by decide +kernel⟩
abbrev s_add_ways : Stmt := (topS 27)
theorem sc_add_ways : FnScope ["found", "ways", "values", "way", "index", "value"] ["found", "ways", "values", "way"] (defScope s_add_ways) := ⟨rfl, rfl, rfl, by decide +kernel, rfl, by decide +kernel, by decide +kernel⟩
abbrev s_first_values : Stmt := (topS 28)
theorem sc_first_values : FnScope ["heap", "source"] ["heap", "source"] (defScope s_first_values) := ⟨rfl, rfl, rfl, by decide +kernel, rfl, by decide +kernel, by decide +kernel⟩
abbrev s_first_path : Stmt := (topS 29)
theorem sc_first_path : FnScope ["heap", "source", "target", "found", "ways", "at", "value"] ["heap", "source", "target"] (defScope s_first_path) := ⟨rfl, rfl, rfl, by decide +kernel, rfl, by decide +kernel, by decide +kernel⟩
abbrev s_objects_now : Stmt := (topS 31)
theorem sc_objects_now : FnScope ["site", "living", "number"] ["site"] (defScope s_objects_now) := ⟨rfl, rfl, rfl, by decide +kernel, rfl, by decide +kernel, by decide +kernel⟩
abbrev s_entries_now : Stmt := (topS 32)
theorem sc_entries_now : FnScope ["site", "stamps", "number"] ["site"] (defScope s_entries_now) := ⟨rfl, rfl, rfl, by decide +kernel, rfl, by decide +kernel, by decide +kernel⟩
abbrev s_imports_now : Stmt := (topS 33)
theorem sc_imports_now : FnScope ["site", "stamps", "number"] ["site"] (defScope s_imports_now) := ⟨rfl, rfl, rfl, by decide +kernel, rfl, by decide +kernel, by decide +kernel⟩
abbrev s_names_now : Stmt := (topS 34)
theorem sc_names_now : FnScope ["site", "entries", "number"] ["site"] (defScope s_names_now) := ⟨rfl, rfl, rfl, by decide +kernel, rfl, by decide +kernel, by decide +kernel⟩
abbrev s_sources_now : Stmt := (topS 35)
theorem sc_sources_now : FnScope ["site"] ["site"] (defScope s_sources_now) := ⟨rfl, rfl, rfl, by decide +kernel, rfl, by decide +kernel, by decide +kernel⟩
abbrev s_values_table : Stmt := (topS 36)
theorem sc_values_table : FnScope ["site", "table", "source", "at"] ["site"] (defScope s_values_table) := ⟨rfl, rfl, rfl, by decide +kernel, rfl, by decide +kernel, by decide +kernel⟩
abbrev s_objects_table : Stmt := (topS 37)
theorem sc_objects_table : FnScope ["site", "table", "source", "at"] ["site"] (defScope s_objects_table) := ⟨rfl, rfl, rfl, by decide +kernel, rfl, by decide +kernel, by decide +kernel⟩
abbrev s_line_sources : Stmt := (topS 38)
theorem sc_line_sources : FnScope ["entries", "table", "name", "number"] ["entries", "table", "name"] (defScope s_line_sources) := ⟨rfl, rfl, rfl, by decide +kernel, rfl, by decide +kernel, by decide +kernel⟩
abbrev s_lines_now : Stmt := (topS 39)
theorem sc_lines_now : FnScope ["site", "entries", "table", "lines", "name", "stamp", "rooted", "kind", "number"] ["site"] (defScope s_lines_now) := ⟨rfl, rfl, rfl, by decide +kernel, rfl, by decide +kernel, by decide +kernel⟩
abbrev s_any_changed : Stmt := (topS 40)
theorem sc_any_changed : FnScope ["marks", "numbers", "number"] ["marks", "numbers"] (defScope s_any_changed) := ⟨rfl, rfl, rfl, by decide +kernel, rfl, by decide +kernel, by decide +kernel⟩
abbrev s_is_affected : Stmt := (topS 41)
theorem sc_is_affected : FnScope ["site", "source", "marks"] ["site", "source"] (defScope s_is_affected) := ⟨rfl, rfl, rfl, by decide +kernel, rfl, by decide +kernel, by decide +kernel⟩
abbrev s_affected_now : Stmt := (topS 42)
theorem sc_affected_now : FnScope ["site", "source"] ["site"] (defScope s_affected_now) := ⟨rfl, rfl, rfl, by decide +kernel, rfl, by decide +kernel, by decide +kernel⟩
abbrev s_work_now : Stmt := (topS 43)
theorem sc_work_now : FnScope ["site", "work", "source"] ["site"] (defScope s_work_now) := ⟨rfl, rfl, rfl, by decide +kernel, rfl, by decide +kernel, by decide +kernel⟩
abbrev s_find_line : Stmt := (topS 44)
theorem sc_find_line : FnScope ["lines", "kind", "number", "line"] ["lines", "kind", "number"] (defScope s_find_line) := ⟨rfl, rfl, rfl, by decide +kernel, rfl, by decide +kernel, by decide +kernel⟩
abbrev s_has_stamp_of : Stmt := (topS 45)
theorem sc_has_stamp_of : FnScope ["site", "lines", "name", "line"] ["site", "lines", "name"] (defScope s_has_stamp_of) := ⟨rfl, rfl, rfl, by decide +kernel, rfl, by decide +kernel, by decide +kernel⟩
abbrev s_first_moved : Stmt := (topS 46)
theorem sc_first_moved : FnScope ["site", "lines", "line", "sources", "name", "number"] ["site", "lines", "line"] (defScope s_first_moved) := ⟨rfl, rfl, rfl, by decide +kernel, rfl, by decide +kernel, by decide +kernel⟩
abbrev s_make_survey : Stmt := (topS 48)
theorem sc_make_survey : FnScope ["site", "work", "lines"] ["site"] (defScope s_make_survey) := ⟨rfl, rfl, rfl, by decide +kernel, rfl, by decide +kernel, by decide +kernel⟩
abbrev s_has_survey : Stmt := (topS 49)
theorem sc_has_survey : FnScope ["site", "index"] ["site", "index"] (defScope s_has_survey) := ⟨rfl, rfl, rfl, by decide +kernel, rfl, by decide +kernel, by decide +kernel⟩
abbrev s_show_survey : Stmt := (topS 50)
theorem sc_show_survey : FnScope ["site", "index", "lines", "answer", "kind", "number", "stamp", "rooted", "sources"] ["site", "index"] (defScope s_show_survey) := ⟨rfl, rfl, rfl, by decide +kernel, rfl, by decide +kernel, by decide +kernel⟩
abbrev s_tell_current : Stmt := (topS 51)
theorem sc_tell_current : FnScope ["site", "index", "kind", "number", "lines", "line", "moved"] ["site", "index", "kind", "number"] (defScope s_tell_current) := ⟨rfl, rfl, rfl, by decide +kernel, rfl, by decide +kernel, by decide +kernel⟩
abbrev s_show_lines : Stmt := (topS 52)
theorem sc_show_lines : FnScope ["site", "lines", "answer", "kind", "number", "stamp", "rooted", "sources"] ["site"] (defScope s_show_lines) := ⟨rfl, rfl, rfl, by decide +kernel, rfl, by decide +kernel, by decide +kernel⟩
abbrev s_show_affected : Stmt := (topS 53)
theorem sc_show_affected : FnScope ["site", "affected", "slots", "entries", "source"] ["site"] (defScope s_show_affected) := ⟨rfl, rfl, rfl, by decide +kernel, rfl, by decide +kernel, by decide +kernel⟩
abbrev s_is_source : Stmt := (topS 55)
theorem sc_is_source : FnScope ["site", "source"] ["site", "source"] (defScope s_is_source) := ⟨rfl, rfl, rfl, by decide +kernel, rfl, by decide +kernel, by decide +kernel⟩
abbrev s_is_target : Stmt := (topS 56)
theorem sc_is_target : FnScope ["site", "kind", "number"] ["site", "kind", "number"] (defScope s_is_target) := ⟨rfl, rfl, rfl, by decide +kernel, rfl, by decide +kernel, by decide +kernel⟩
abbrev s_show_path : Stmt := (topS 57)
theorem sc_show_path : FnScope ["site", "source", "kind", "number", "path"] ["site", "source", "kind", "number"] (defScope s_show_path) := ⟨rfl, rfl, rfl, by decide +kernel, rfl, by decide +kernel, by decide +kernel⟩
abbrev s_show_stamp : Stmt := (topS 58)
theorem sc_show_stamp : FnScope ["site", "kind", "number", "stamp"] ["site", "kind", "number"] (defScope s_show_stamp) := ⟨rfl, rfl, rfl, by decide +kernel, rfl, by decide +kernel, by decide +kernel⟩
abbrev s_pairs_flat : Stmt := (topS 59)
theorem sc_pairs_flat : FnScope ["values", "answer", "kind", "number"] ["values"] (defScope s_pairs_flat) := ⟨rfl, rfl, rfl, by decide +kernel, rfl, by decide +kernel, by decide +kernel⟩
abbrev s_show_object : Stmt := (topS 60)
theorem sc_show_object : FnScope ["site", "number", "row"] ["site", "number"] (defScope s_show_object) := ⟨rfl, rfl, rfl, by decide +kernel, rfl, by decide +kernel, by decide +kernel⟩
abbrev s_show_slots : Stmt := (topS 61)
theorem sc_show_slots : FnScope ["site"] ["site"] (defScope s_show_slots) := ⟨rfl, rfl, rfl, by decide +kernel, rfl, by decide +kernel, by decide +kernel⟩
abbrev s_show_status : Stmt := (topS 62)
theorem sc_show_status : FnScope ["site", "answer"] ["site"] (defScope s_show_status) := ⟨rfl, rfl, rfl, by decide +kernel, rfl, by decide +kernel, by decide +kernel⟩
abbrev s_create : Stmt := (topS 64)
theorem sc_create : FnScope ["site", "slot", "field_count", "number"] ["site", "slot", "field_count"] (defScope s_create) := ⟨rfl, rfl, rfl, by decide +kernel, rfl, by decide +kernel, by decide +kernel⟩
abbrev s_copy_slot : Stmt := (topS 65)
theorem sc_copy_slot : FnScope ["site", "target", "source"] ["site", "target", "source"] (defScope s_copy_slot) := ⟨rfl, rfl, rfl, by decide +kernel, rfl, by decide +kernel, by decide +kernel⟩
abbrev s_clear_slot : Stmt := (topS 66)
theorem sc_clear_slot : FnScope ["site", "slot"] ["site", "slot"] (defScope s_clear_slot) := ⟨rfl, rfl, rfl, by decide +kernel, rfl, by decide +kernel, by decide +kernel⟩
abbrev s_field_fault : Stmt := (topS 67)
theorem sc_field_fault : FnScope ["site", "slot", "field", "kind", "number"] ["site", "slot", "field"] (defScope s_field_fault) := ⟨rfl, rfl, rfl, by decide +kernel, rfl, by decide +kernel, by decide +kernel⟩
abbrev s_read_field : Stmt := (topS 68)
theorem sc_read_field : FnScope ["site", "target", "source", "field", "fault", "number", "value"] ["site", "target", "source", "field"] (defScope s_read_field) := ⟨rfl, rfl, rfl, by decide +kernel, rfl, by decide +kernel, by decide +kernel⟩
abbrev s_write_field : Stmt := (topS 69)
theorem sc_write_field : FnScope ["site", "target", "field", "source", "fault", "number"] ["site", "target", "field", "source"] (defScope s_write_field) := ⟨rfl, rfl, rfl, by decide +kernel, rfl, by decide +kernel, by decide +kernel⟩
abbrev s_export : Stmt := (topS 76)
theorem sc_export : FnScope ["site", "slot", "value", "kind", "number"] ["site", "slot"] (defScope s_export) := ⟨rfl, rfl, rfl, by decide +kernel, rfl, by decide +kernel, by decide +kernel⟩
abbrev s_arrive : Stmt := (topS 77)
theorem sc_arrive : FnScope ["site", "number", "slot"] ["site", "number", "slot"] (defScope s_arrive) := ⟨rfl, rfl, rfl, by decide +kernel, rfl, by decide +kernel, by decide +kernel⟩
abbrev s_import_foreign : Stmt := (topS 78)
theorem sc_import_foreign : FnScope ["site", "foreign", "slot", "is_new"] ["site", "foreign", "slot"] (defScope s_import_foreign) := ⟨rfl, rfl, rfl, by decide +kernel, rfl, by decide +kernel, by decide +kernel⟩
abbrev s_retire : Stmt := (topS 79)
theorem sc_retire : FnScope ["site", "number"] ["site", "number"] (defScope s_retire) := ⟨rfl, rfl, rfl, by decide +kernel, rfl, by decide +kernel, by decide +kernel⟩
abbrev s_all_led : Stmt := (topS 80)
theorem sc_all_led : FnScope ["site", "entries", "number"] ["site"] (defScope s_all_led) := ⟨rfl, rfl, rfl, by decide +kernel, rfl, by decide +kernel, by decide +kernel⟩
abbrev s_collect : Stmt := (topS 81)
theorem sc_collect : FnScope ["site", "led", "freed", "given_up", "number"] ["site"] (defScope s_collect) := ⟨rfl, rfl, rfl, by decide +kernel, rfl, by decide +kernel, by decide +kernel⟩
abbrev s_program_answer : Stmt := (topS 84)
theorem sc_program_answer : FnScope ["site", "operation", "given"] ["site", "operation", "given"] (defScope s_program_answer) := ⟨rfl, rfl, rfl, by decide +kernel, rfl, by decide +kernel, by decide +kernel⟩
abbrev s_traffic_answer : Stmt := (topS 85)
theorem sc_traffic_answer : FnScope ["site", "operation", "given"] ["site", "operation", "given"] (defScope s_traffic_answer) := ⟨rfl, rfl, rfl, by decide +kernel, rfl, by decide +kernel, by decide +kernel⟩
abbrev s_asking_answer : Stmt := (topS 86)
theorem sc_asking_answer : FnScope ["site", "operation", "given"] ["site", "operation", "given"] (defScope s_asking_answer) := ⟨rfl, rfl, rfl, by decide +kernel, rfl, by decide +kernel, by decide +kernel⟩
abbrev s_looking_answer : Stmt := (topS 87)
theorem sc_looking_answer : FnScope ["site", "operation", "given"] ["site", "operation", "given"] (defScope s_looking_answer) := ⟨rfl, rfl, rfl, by decide +kernel, rfl, by decide +kernel, by decide +kernel⟩
abbrev s_one_answer : Stmt := (topS 88)
theorem sc_one_answer : FnScope ["site", "operation", "given"] ["site", "operation", "given"] (defScope s_one_answer) := ⟨rfl, rfl, rfl, by decide +kernel, rfl, by decide +kernel, by decide +kernel⟩
abbrev s_answers : Stmt := (topS 89)
theorem sc_answers : FnScope ["calls", "site", "told", "at", "size", "answer"] ["calls"] (defScope s_answers) := ⟨rfl, rfl, rfl, by decide +kernel, rfl, by decide +kernel, by decide +kernel⟩
abbrev s_Heap_init : Stmt := (inClass (topS 71) 0)
theorem sc_Heap_init : FnScope ["self", "at"] ["self"] (defScope s_Heap_init) := ⟨rfl, rfl, rfl, by decide +kernel, rfl, by decide +kernel, by decide +kernel⟩
abbrev s_Heap_make : Stmt := (inClass (topS 71) 1)
theorem sc_Heap_make : FnScope ["self", "field_count", "at"] ["self", "field_count"] (defScope s_Heap_make) := ⟨rfl, rfl, rfl, by decide +kernel, rfl, by decide +kernel, by decide +kernel⟩
abbrev s_Heap_drop : Stmt := (inClass (topS 71) 2)
theorem sc_Heap_drop : FnScope ["self", "number"] ["self", "number"] (defScope s_Heap_drop) := ⟨rfl, rfl, rfl, by decide +kernel, rfl, by decide +kernel, by decide +kernel⟩
abbrev s_Heap_set_slot : Stmt := (inClass (topS 71) 3)
theorem sc_Heap_set_slot : FnScope ["self", "slot", "value", "moved"] ["self", "slot", "value"] (defScope s_Heap_set_slot) := ⟨rfl, rfl, rfl, by decide +kernel, rfl, by decide +kernel, by decide +kernel⟩
abbrev s_Heap_set_field : Stmt := (inClass (topS 71) 4)
theorem sc_Heap_set_field : FnScope ["self", "number", "field", "value", "moved"] ["self", "number", "field", "value"] (defScope s_Heap_set_field) := ⟨rfl, rfl, rfl, by decide +kernel, rfl, by decide +kernel, by decide +kernel⟩
abbrev s_Names_init : Stmt := (inClass (topS 72) 0)
theorem sc_Names_init : FnScope ["self", "at"] ["self"] (defScope s_Names_init) := ⟨rfl, rfl, rfl, by decide +kernel, rfl, by decide +kernel, by decide +kernel⟩
abbrev s_Names_use_entry : Stmt := (inClass (topS 72) 1)
theorem sc_Names_use_entry : FnScope ["self", "number"] ["self", "number"] (defScope s_Names_use_entry) := ⟨rfl, rfl, rfl, by decide +kernel, rfl, by decide +kernel, by decide +kernel⟩
abbrev s_Names_use_import : Stmt := (inClass (topS 72) 2)
theorem sc_Names_use_import : FnScope ["self", "number"] ["self", "number"] (defScope s_Names_use_import) := ⟨rfl, rfl, rfl, by decide +kernel, rfl, by decide +kernel, by decide +kernel⟩
abbrev s_Names_drop_entry : Stmt := (inClass (topS 72) 3)
theorem sc_Names_drop_entry : FnScope ["self", "number"] ["self", "number"] (defScope s_Names_drop_entry) := ⟨rfl, rfl, rfl, by decide +kernel, rfl, by decide +kernel, by decide +kernel⟩
abbrev s_Names_drop_import : Stmt := (inClass (topS 72) 4)
theorem sc_Names_drop_import : FnScope ["self", "number"] ["self", "number"] (defScope s_Names_drop_import) := ⟨rfl, rfl, rfl, by decide +kernel, rfl, by decide +kernel, by decide +kernel⟩
abbrev s_Marks_init : Stmt := (inClass (topS 73) 0)
theorem sc_Marks_init : FnScope ["self", "led", "at"] ["self", "led"] (defScope s_Marks_init) := ⟨rfl, rfl, rfl, by decide +kernel, rfl, by decide +kernel, by decide +kernel⟩
abbrev s_Marks_note_slot : Stmt := (inClass (topS 73) 1)
theorem sc_Marks_note_slot : FnScope ["self"] ["self"] (defScope s_Marks_note_slot) := ⟨rfl, rfl, rfl, by decide +kernel, rfl, by decide +kernel, by decide +kernel⟩
abbrev s_Marks_note_field : Stmt := (inClass (topS 73) 2)
theorem sc_Marks_note_field : FnScope ["self", "number"] ["self", "number"] (defScope s_Marks_note_field) := ⟨rfl, rfl, rfl, by decide +kernel, rfl, by decide +kernel, by decide +kernel⟩
abbrev s_Marks_note_entry : Stmt := (inClass (topS 73) 3)
theorem sc_Marks_note_entry : FnScope ["self", "number"] ["self", "number"] (defScope s_Marks_note_entry) := ⟨rfl, rfl, rfl, by decide +kernel, rfl, by decide +kernel, by decide +kernel⟩
abbrev s_Site_init : Stmt := (inClass (topS 74) 0)
theorem sc_Site_init : FnScope ["self", "at"] ["self"] (defScope s_Site_init) := ⟨rfl, rfl, rfl, by decide +kernel, rfl, by decide +kernel, by decide +kernel⟩
abbrev s_Site_put : Stmt := (inClass (topS 74) 1)
theorem sc_Site_put : FnScope ["self", "slot", "value"] ["self", "slot", "value"] (defScope s_Site_put) := ⟨rfl, rfl, rfl, by decide +kernel, rfl, by decide +kernel, by decide +kernel⟩
abbrev s_Site_change_field : Stmt := (inClass (topS 74) 2)
theorem sc_Site_change_field : FnScope ["self", "number", "field", "value"] ["self", "number", "field", "value"] (defScope s_Site_change_field) := ⟨rfl, rfl, rfl, by decide +kernel, rfl, by decide +kernel, by decide +kernel⟩
abbrev s_Site_use_object : Stmt := (inClass (topS 74) 3)
theorem sc_Site_use_object : FnScope ["self", "number"] ["self", "number"] (defScope s_Site_use_object) := ⟨rfl, rfl, rfl, by decide +kernel, rfl, by decide +kernel, by decide +kernel⟩
abbrev s_Site_stamp_of : Stmt := (inClass (topS 74) 4)
theorem sc_Site_stamp_of : FnScope ["self", "kind", "number"] ["self", "kind", "number"] (defScope s_Site_stamp_of) := ⟨rfl, rfl, rfl, by decide +kernel, rfl, by decide +kernel, by decide +kernel⟩
abbrev s_Site_has_object : Stmt := (inClass (topS 74) 5)
theorem sc_Site_has_object : FnScope ["self", "number"] ["self", "number"] (defScope s_Site_has_object) := ⟨rfl, rfl, rfl, by decide +kernel, rfl, by decide +kernel, by decide +kernel⟩
abbrev s_Site_keep : Stmt := (inClass (topS 74) 6)
theorem sc_Site_keep : FnScope ["self", "lines", "led"] ["self", "lines", "led"] (defScope s_Site_keep) := ⟨rfl, rfl, rfl, by decide +kernel, rfl, by decide +kernel, by decide +kernel⟩

/-! ### rules in short -/
/-- a def of the module that keeps its promise, a method, a class with its __init__ -/
structure Def (P : Program) (w : World) (K : PySem.W.Frag) (mg : Str → Option Value) (base : Heap) (x : Str) (ps : List Str) (k : Nat) (sp : Sp) : Prop where
  ex : ∃ f fd, mg x = some (.ref f) ∧ PySem.W.keepIn K (.ref f) = true ∧ Binds K fd ps [] ∧ FnOk P w K mg base CX0 k f fd ps sp
structure MDef (P : Program) (w : World) (K : PySem.W.Frag) (mg : Str → Option Value) (base : Heap) (C : Addr) (m : Str) (ps : List Str) (k : Nat) (sp : Sp) : Prop where
  ex : ∃ f fd, Meth K C m f ∧ Binds K fd ps [] ∧ FnOk P w K mg base CX0 k f fd ps sp
structure KDef (P : Program) (w : World) (K : PySem.W.Frag) (mg : Str → Option Value) (base : Heap) (x : Str) (C : Addr) (ps : List Str) (k : Nat) (sp : Sp) : Prop where
  ex : ∃ f fd, Mk K C f ∧ mg x = some (.ref C) ∧ Binds K fd ps [] ∧ FnOk P w K mg base CX0 k f fd ps sp
section
variable {X : Cx} {pos p apos : Pos} {x m : Str} {e o : Expr} {es : List Expr} {t : TA} {ta : TE} {ps : List Str} {k : Nat} {sp : Sp} {C : Addr}
theorem pe_i {i j pos} : PE X (.Constant (.int i) j pos) (fun _ H Q => Q (.int i) H) := pe_int
theorem pe_b {b j pos} : PE X (.Constant (.bool b) j pos) (fun _ H Q => Q (.bl b) H) := pe_bl
theorem pe_n {j pos} : PE X (.Constant .none j pos) (fun _ H Q => Q .non H) := pe_non
theorem pe_gi {i : Int} (hg : Gl X x) (h : ∃ t, X.mg x = some (.int i t)) (hd : (x == ("__debug__" : Str)) = false := by decide) : PE X (.Name x pos) (fun _ H Q => Q (.int i) H) := by
  obtain ⟨t, h⟩ := h
  exact pe_glob hg h ⟨t, rfl⟩ hd
theorem pe_gr {a : Addr} (hg : Gl X x) (h : X.mg x = some (.ref a)) (hd : (x == ("__debug__" : Str)) = false := by decide) : PE X (.Name x pos) (fun _ H Q => Q (.ref a) H) := pe_glob hg h rfl hd
theorem pe_cd (D : Def X.prog X.w X.K X.mg X.base x ps k sp) (hr : Room k X.A) (hg : Gl X x) (ha : PA X (e :: es) t) (hdb : (x == ("__debug__" : Str)) = false := by decide)
    (he : starEach (e :: es) X.env = (false, eval e X.env) :: starEach es X.env := by rfl) (hpl : (backTo pos (starEach es X.env)).any (·.1) = false := by rfl) :
    PE X (.Call (.Name x p) (e :: es) [] pos) (tCall sp [] E0 t) := by
  obtain ⟨f, fd, h1, h2, h3, h4⟩ := D.ex
  exact pe_call h4 hr hg h1 h2 h3 .nil pass0 ha hdb he hpl
theorem pe_md {pl : Sem Bool} (he : PE X o ta) (c : Cls X.K C) (D : MDef X.prog X.w X.K X.mg X.base C m ps k sp) (hr : Room k X.A) (ha : PA X (e :: es) t)
    (hst : starEach (e :: es) X.env = (false, eval e X.env) :: starEach es X.env := by rfl) (hpl : (backTo pos (starEach es X.env)).any (·.1) = false := by rfl)
    (ht : eval (.Call (.Attribute o m apos) (e :: es) [] pos) X.env = (do
      let ov ← eval o X.env
      standAt apos.atName
      let (f, first) ← holding [ov] (getMethod ov m pl)
      callWith pos f first (backTo pos (starEach (e :: es) X.env)) (backToKw pos (keywordEach [] X.env))) := by rfl) :
    PE X (.Call (.Attribute o m apos) (e :: es) [] pos) (tMeth C m sp [] E0 ta t) := by
  obtain ⟨f, fd, h1, h3, h4⟩ := D.ex
  exact pe_meth he c h1 h4 hr h3 .nil pass0 ha hst hpl ht
theorem pe_md0 {pl : Sem Bool} (he : PE X o ta) (c : Cls X.K C) (D : MDef X.prog X.w X.K X.mg X.base C m ps k sp) (hr : Room k X.A)
    (ht : eval (.Call (.Attribute o m apos) [] [] pos) X.env = (do
      let ov ← eval o X.env
      standAt apos.atName
      let (f, first) ← holding [ov] (getMethod ov m pl)
      callWith pos f first (backTo pos (starEach [] X.env)) (backToKw pos (keywordEach [] X.env))) := by rfl) :
    PE X (.Call (.Attribute o m apos) [] [] pos) (tMeth C m sp [] E0 ta tNil) := by
  obtain ⟨f, fd, h1, h3, h4⟩ := D.ex
  exact pe_meth0 he c h1 h4 hr h3 .nil pass0 ht
theorem pe_kd (D : KDef X.prog X.w X.K X.mg X.base x C ps k sp) (hr : Room (k + 1) X.A) (hg : Gl X x) (ha : PA X (e :: es) t) (hdb : (x == ("__debug__" : Str)) = false := by decide)
    (he : starEach (e :: es) X.env = (false, eval e X.env) :: starEach es X.env := by rfl) (hpl : (backTo pos (starEach es X.env)).any (·.1) = false := by rfl) :
    PE X (.Call (.Name x p) (e :: es) [] pos) (tMake C sp [] E0 t) := by
  obtain ⟨f, fd, h0, h1, h3, h4⟩ := D.ex
  exact pe_make h0 h4 hr hg h1 h3 .nil pass0 ha hdb he hpl
theorem pe_kd0 (D : KDef X.prog X.w X.K X.mg X.base x C ps k sp) (hr : Room (k + 1) X.A) (hg : Gl X x) (hdb : (x == ("__debug__" : Str)) = false := by decide) :
    PE X (.Call (.Name x p) [] [] pos) (tMake C sp [] E0 tNil) := by
  obtain ⟨f, fd, h0, h1, h3, h4⟩ := D.ex
  exact pe_make0 h0 h4 hr hg h1 h3 .nil pass0 hdb
theorem ix_listK {K : PySem.W.Frag} (h : X.K = K) : IxR X (rIxL K) := h ▸ ix_list
theorem ix_tupK {K : PySem.W.Frag} (h : X.K = K) : IxR X (rIxT K) := h ▸ ix_tup
theorem op_inDK {K : PySem.W.Frag} (h : X.K = K) (hu : X.A.units + 65 < cLine) : OpR X (compareOp .In) (rInD K) := h ▸ op_inD hu
theorem op_notInDK {K : PySem.W.Frag} (h : X.K = K) (hu : X.A.units + 65 < cLine) : OpR X (compareOp .NotIn) (rNotInD K) := h ▸ op_notInD hu
theorem op_eqDK {K : PySem.W.Frag} (h : X.K = K) (hu : X.A.units + 64 < cLine) : OpR X (compareOp .Eq) (rEqD K) := h ▸ op_eqD hu
theorem op_neDK {K : PySem.W.Frag} (h : X.K = K) (hu : X.A.units + 64 < cLine) : OpR X (compareOp .NotEq) (rNeD K) := h ▸ op_neD hu
theorem un64 {A : Around} (hr : Room k A) : A.units + 64 < cLine := hr.units
theorem un65 {A : Around} (hr : Room k A) : A.units + 65 < cLine := by
  have := hr.un
  omega
end

/-! ### what the top has written -/
/-- the places of the classes and of the two tuples -/
structure Cad where
  Site : Addr
  Heap : Addr
  Names : Addr
  Marks : Addr
  nothing : Addr
  sizes : Addr
/-- a tuple of the written part -/
def KT (K : PySem.W.Frag) (a : Addr) (xs : List V) : Prop :=
  ∃ (o : Obj) (its : Array Value) (n : Nat), K.lookup a = some o ∧ o.cls = .type "tuple" ∧ o.data = .seq its n ∧ its.size ≤ sizeLine ∧ Vals xs its.toList
structure Txt (K : PySem.W.Frag) (mg : Str → Option Value) (c : Cad) : Prop where
  cSite : Cls K c.Site
  cHeap : Cls K c.Heap
  cNames : Cls K c.Names
  cMarks : Cls K c.Marks
  nheap : NoAttr K c.Site "heap"
  nnames : NoAttr K c.Site "names"
  nmarks : NoAttr K c.Site "marks"
  nsurveys : NoAttr K c.Site "surveys"
  nslots : NoAttr K c.Heap "slots"
  nmade : NoAttr K c.Heap "made"
  nrows : NoAttr K c.Heap "rows"
  nliving : NoAttr K c.Heap "living"
  nuses : NoAttr K c.Names "uses"
  nes : NoAttr K c.Names "entry_stamps"
  nim : NoAttr K c.Names "import_stamps"
  nled : NoAttr K c.Marks "led"
  nsc : NoAttr K c.Marks "slots_changed"
  nchanged : NoAttr K c.Marks "changed"
  nfresh : NoAttr K c.Marks "fresh"
  gOBJECT : ∃ t, mg "OBJECT" = some (.int 1 t)
  gFOREIGN : ∃ t, mg "FOREIGN" = some (.int 2 t)
  gSLOT_COUNT : ∃ t, mg "SLOT_COUNT" = some (.int 6 t)
  gMOST_FIELDS : ∃ t, mg "MOST_FIELDS" = some (.int 4 t)
  gMOST_OBJECTS : ∃ t, mg "MOST_OBJECTS" = some (.int 40 t)
  gMOST_FOREIGN : ∃ t, mg "MOST_FOREIGN" = some (.int 20 t)
  gMOST_VALUES : ∃ t, mg "MOST_VALUES" = some (.int 60 t)
  gMOST_SURVEYS : ∃ t, mg "MOST_SURVEYS" = some (.int 30 t)
  gOUT_OF_RANGE : ∃ t, mg "OUT_OF_RANGE" = some (.int (-1) t)
  gNOT_IN_SLOT : ∃ t, mg "NOT_IN_SLOT" = some (.int (-3) t)
  gNO_FIELD : ∃ t, mg "NO_FIELD" = some (.int (-5) t)
  gNOT_THERE : ∃ t, mg "NOT_THERE" = some (.int (-6) t)
  gNO_SURVEY : ∃ t, mg "NO_SURVEY" = some (.int (-7) t)
  gTOO_MANY : ∃ t, mg "TOO_MANY" = some (.int (-8) t)
  gNOTHING : mg "NOTHING" = some (.ref c.nothing)
  tNOTHING : KT K c.nothing [.int 0, .int 0]
  gSIZES : mg "SIZES" = some (.ref c.sizes)
  tSIZES : KT K c.sizes (([2, 2, 1, 3, 3, 1, 2, 2, 1, 0, 0, 1, 3, 0, 0, 3, 2, 1, 0, 0] : List Int).map V.int)
  len : mg "len" = none
  range : mg "range" = none
  enumerate : mg "enumerate" = none
end Sw
end
section
set_option maxHeartbeats 4000000
namespace Sw
open PySem PySem.Spec PyProof.Rows L2

/-! ### values and lists of values in a heap -/
abbrev Vl := Vbxlaf.Value
def nV (n : Nat) : V := .int (n : Int)
def encV (x : Vl) : List V := [nV (Sv.kindN x), nV (Sv.numN x)]
/-- a tuple that stands for the value x -/
def VAt (K : PySem.W.Frag) (F : Hp) (v : V) (x : Vl) : Prop := ∃ a, v = .ref a ∧ (F a = some (.tup (encV x)) ∨ KT K a (encV x))
/-- item by item -/
def Pt {A : Type} (R : V → A → Prop) (vs : List V) (xs : List A) : Prop := vs.length = xs.length ∧ ∀ (i : Nat) (v : V) (x : A), vs[i]? = some v → xs[i]? = some x → R v x
def VsAt (K : PySem.W.Frag) (F : Hp) (vs : List V) (xs : List Vl) : Prop := Pt (VAt K F) vs xs
section
variable {A : Type} {R R' : V → A → Prop} {vs ws : List V} {xs ys : List A}
theorem Pt.nil : Pt R [] [] := ⟨rfl, fun i v x h => by simp at h⟩
theorem Pt.mono (h : ∀ v x, R v x → R' v x) (p : Pt R vs xs) : Pt R' vs xs := ⟨p.1, fun i v x a b => h v x (p.2 i v x a b)⟩
theorem Pt.append (p : Pt R vs xs) (q : Pt R ws ys) : Pt R (vs ++ ws) (xs ++ ys) := by
  refine ⟨by rw [List.length_append, List.length_append, p.1, q.1], fun i v x a b => ?_⟩
  rcases Nat.lt_or_ge i vs.length with c | c
  · rw [List.getElem?_append_left c] at a
    rw [List.getElem?_append_left (by rw [← p.1]; exact c)] at b
    exact p.2 i v x a b
  · rw [List.getElem?_append_right c] at a
    rw [List.getElem?_append_right (by rw [← p.1]; exact c)] at b
    rw [p.1] at a
    exact q.2 _ v x a b
theorem Pt.one {v : V} {x : A} (h : R v x) : Pt R [v] [x] := ⟨rfl, fun i w y a b => by
  cases i with
  | zero =>
    cases a
    cases b
    exact h
  | succ i => simp at a⟩
theorem Pt.snoc {v : V} {x : A} (p : Pt R vs xs) (h : R v x) : Pt R (vs ++ [v]) (xs ++ [x]) := p.append (.one h)
theorem Pt.set {v : V} {x : A} (p : Pt R vs xs) (h : R v x) (j : Nat) : Pt R (vs.set j v) (xs.set j x) := by
  refine ⟨by rw [List.length_set, List.length_set, p.1], fun i w y a b => ?_⟩
  by_cases e : j = i
  · subst e
    have hl : j < vs.length := by
      have := (List.getElem?_eq_some_iff.mp a).1
      rw [List.length_set] at this
      exact this
    rw [List.getElem?_set_self hl] at a
    rw [List.getElem?_set_self (by rw [← p.1]; exact hl)] at b
    cases a
    cases b
    exact h
  · rw [List.getElem?_set_ne e] at a b
    exact p.2 i w y a b
theorem Pt.get (p : Pt R vs xs) {i : Nat} {x : A} (h : xs[i]? = some x) : ∃ v, vs[i]? = some v ∧ R v x := by
  have hl : i < vs.length := by rw [p.1]; exact (List.getElem?_eq_some_iff.mp h).1
  exact ⟨vs[i], List.getElem?_eq_getElem hl, p.2 i _ x (List.getElem?_eq_getElem hl) h⟩
theorem Pt.got (p : Pt R vs xs) {i : Nat} {v : V} (h : vs[i]? = some v) : ∃ x, xs[i]? = some x ∧ R v x := by
  have hl : i < xs.length := by rw [← p.1]; exact (List.getElem?_eq_some_iff.mp h).1
  exact ⟨xs[i], List.getElem?_eq_getElem hl, p.2 i v _ h (List.getElem?_eq_getElem hl)⟩
theorem Pt.rep {v : V} {x : A} (h : R v x) (n : Nat) : Pt R (List.replicate n v) (List.replicate n x) := by
  refine ⟨by simp, fun i w y a b => ?_⟩
  rw [List.getElem?_replicate] at a b
  split at a
  · rename_i c
    rw [if_pos c] at b
    cases a
    cases b
    exact h
  · cases a
end

/-! ### heaps -/
section
variable {K : PySem.W.Frag} {H H' F F' : Hp} {a p : Addr} {o : HO} {xs : List V}
theorem same_upd (h : H p = none) : Same H (upd H p o) := fun b x e => by
  rw [upd_ne (ne_of_none e h)]
  exact e
theorem same_new (e : Same H H') (h : H' p = none) : Same H (upd H' p o) := e.trans (same_upd h)
/-- what the old heap didn't know may change -/
theorem same_old (e : Same H H') (h : H p = none) : Same H (upd H' p o) := fun b x q => by
  rw [upd_ne (ne_of_none q h)]
  exact e b x q
theorem sqT_same (e : Same H H') (h : SqT K H a xs) : SqT K H' a xs := by
  rcases h with (h | ⟨o, h⟩) | h
  · exact .inl (.inl (e _ _ h))
  · exact .inl (.inr ⟨o, e _ _ h⟩)
  · exact .inr h
theorem VAt.mono {v : V} {x : Vl} (e : Same F F') (h : VAt K F v x) : VAt K F' v x := by
  obtain ⟨a, rfl, h⟩ := h
  refine ⟨a, rfl, ?_⟩
  rcases h with h | h
  · exact .inl (e _ _ h)
  · exact .inr h
/-- tuples alone matter -/
theorem VAt.tups {v : V} {x : Vl} (e : ∀ b ys, F b = some (.tup ys) → F' b = some (.tup ys)) (h : VAt K F v x) : VAt K F' v x := by
  obtain ⟨a, rfl, h⟩ := h
  refine ⟨a, rfl, ?_⟩
  rcases h with h | h
  · exact .inl (e _ _ h)
  · exact .inr h
theorem VAt.sq {v : V} {x : Vl} (h0 : VAt K F v x) : ∃ a, v = .ref a ∧ SqT K F a (encV x) := by
  obtain ⟨a, rfl, h⟩ := h0
  refine ⟨a, rfl, ?_⟩
  rcases h with h | h
  · exact .inl (.inl h)
  · exact .inr h
theorem VAt.new {x : Vl} (h : F p = some (.tup (encV x))) : VAt K F (.ref p) x := ⟨p, rfl, .inl h⟩
theorem VsAt.mono {vs : List V} {ys : List Vl} (e : Same F F') (h : VsAt K F vs ys) : VsAt K F' vs ys := Pt.mono (fun _ _ q => q.mono e) h
theorem VsAt.tups {vs : List V} {ys : List Vl} (e : ∀ b ys, F b = some (.tup ys) → F' b = some (.tup ys)) (h : VsAt K F vs ys) : VsAt K F' vs ys := Pt.mono (fun _ _ q => q.tups e) h
/-- a list changed: the tuples stand -/
theorem tups_upd {ys : List V} (h : H p = some (.lst ys)) : ∀ b zs, H b = some (.tup zs) → (upd H p o) b = some (.tup zs) := fun b zs q => by
  rw [upd_ne]
  · exact q
  · intro e
    subst e
    rw [h] at q
    cases q
theorem tups_same (e : Same H H') : ∀ b zs, H b = some (.tup zs) → H' b = some (.tup zs) := fun b zs q => e b _ q
theorem tups_but (h : H p = some (.lst xs)) (e : ∀ b o, b ≠ p → H b = some o → H' b = some o) : ∀ b zs, H b = some (.tup zs) → H' b = some (.tup zs) := fun b zs q => by
  refine e b _ (fun z => ?_) q
  subst z
  rw [h] at q
  cases q
end

/-! ### a value as data -/
def dV (x : Vl) : PyData := .tuple [.int (Sv.kindN x : Nat), .int (Sv.numN x : Nat)]
theorem code_inj {x y : Vl} (h1 : Sv.kindN x = Sv.kindN y) (h2 : Sv.numN x = Sv.numN y) : x = y := by
  cases x <;> cases y <;> simp_all [Sv.kindN, Sv.numN]
theorem dV_eqv (x y : Vl) : PyData.eqv (dV x) (dV y) = decide (x = y) := by
  have e : PyData.eqv (dV x) (dV y) = (((Sv.kindN x : Int) == (Sv.kindN y : Int)) && (((Sv.numN x : Int) == (Sv.numN y : Int)) && true)) := by simp only [dV, PyData.eqv, PyData.eqvAll]
  rw [e, Bool.eq_iff_iff, decide_eq_true_eq]
  simp only [Bool.and_eq_true, beq_iff_eq, and_true]
  constructor
  · rintro ⟨a, b⟩
    exact code_inj (by omega) (by omega)
  · intro h
    rw [h]
    exact ⟨rfl, rfl⟩
theorem dV_shaped (x : Vl) : SeqAt.shaped (dV x) = true := by
  have h : (dV x).depth ≤ 64 := by simp [dV, PyData.depth, PyData.depthAll]
  show ((dV x).canLay0 && decide ((dV x).depth ≤ 64)) = true
  rw [Bool.and_eq_true]
  exact ⟨by simp [dV, PyData.canLay0, PyData.canLayAll0], decide_eq_true h⟩
theorem dVs_lay : ∀ xs : List Vl, PyData.canLayAll0 (xs.map dV) = true
  | [] => by simp [PyData.canLayAll0]
  | x :: xs => by
    have h : (dV x).canLay0 = true := by simp [dV, PyData.canLay0, PyData.canLayAll0]
    simp [PyData.canLayAll0, h, dVs_lay xs]
theorem dVs_depth : ∀ xs : List Vl, PyData.depthAll (xs.map dV) ≤ 2
  | [] => by simp [PyData.depthAll]
  | x :: xs => by
    have h1 := dVs_depth xs
    have h2 : (dV x).depth = 1 := by simp [dV, PyData.depth, PyData.depthAll]
    simp only [List.map_cons, PyData.depthAll]
    omega
theorem dVs_shaped (xs : List Vl) : SeqAt.shaped (.list (xs.map dV)) = true := by
  have h1 := dVs_depth xs
  have h2 : PyData.depth (.list (xs.map dV)) ≤ 64 := by
    simp only [PyData.depth]
    omega
  show (PyData.canLay0 (.list (xs.map dV)) && decide (PyData.depth (.list (xs.map dV)) ≤ 64)) = true
  rw [Bool.and_eq_true]
  exact ⟨by simp only [PyData.canLay0]; exact dVs_lay xs, decide_eq_true h2⟩
section
variable {K : PySem.W.Frag} {H : Hp} {v : V} {x y : Vl} {vs : List V} {xs : List Vl} {a : Addr}
theorem VAt.dp (h : VAt K H v x) : Dp K H v (dV x) := by
  obtain ⟨a, rfl, hs⟩ := h.sq
  exact .tup hs (.cons (.int _) (.cons (.int _) .nil))
theorem dpAll : ∀ {vs : List V} {xs : List Vl}, VsAt K H vs xs → DpAll K H vs (xs.map dV)
  | [], [], _ => .nil
  | [], _ :: _, h => absurd h.1 (by simp)
  | _ :: _, [], h => absurd h.1 (by simp)
  | v :: vs, x :: xs, h => .cons (h.2 0 v x rfl rfl).dp (dpAll ⟨by have := h.1; simpa using this, fun i w y a b => h.2 (i + 1) w y a b⟩)
theorem VsAt.dp (hl : SqL K H a vs) (h : VsAt K H vs xs) : Dp K H (.ref a) (.list (xs.map dV)) := .lst hl (dpAll h)
theorem any_dV (x : Vl) (xs : List Vl) : ((xs.map dV).any fun z => PyData.eqv z (dV x)) = decide (x ∈ xs) := by
  rw [Bool.eq_iff_iff, List.any_eq_true, decide_eq_true_eq]
  constructor
  · rintro ⟨z, hz, e⟩
    obtain ⟨y, hy, rfl⟩ := List.mem_map.mp hz
    rw [dV_eqv, decide_eq_true_eq] at e
    rw [← e]
    exact hy
  · intro h
    exact ⟨dV x, List.mem_map.mpr ⟨x, h, rfl⟩, by rw [dV_eqv]; simp⟩
/-- the readings of ==, !=, in, not in upon values -/
theorem rd_eq (hv : VAt K H v x) {w : V} (hw : VAt K H w y) {Q : VK} (q : Q (.bl (decide (x = y))) H) : rEqD K v w H Q :=
  ⟨dV x, dV y, hv.dp, hw.dp, dV_shaped x, dV_shaped y, by rw [dV_eqv]; exact q⟩
theorem rd_ne (hv : VAt K H v x) {w : V} (hw : VAt K H w y) {Q : VK} (q : Q (.bl (!decide (x = y))) H) : rNeD K v w H Q :=
  ⟨dV x, dV y, hv.dp, hw.dp, dV_shaped x, dV_shaped y, by rw [dV_eqv]; exact q⟩
theorem rd_in (hv : VAt K H v x) (hl : SqL K H a vs) (h : VsAt K H vs xs) {Q : VK} (q : Q (.bl (decide (x ∈ xs))) H) : rInD K v (.ref a) H Q :=
  ⟨dV x, xs.map dV, hv.dp, h.dp hl, dV_shaped x, dVs_shaped xs, by rw [any_dV]; exact q⟩
theorem rd_notIn (hv : VAt K H v x) (hl : SqL K H a vs) (h : VsAt K H vs xs) {Q : VK} (q : Q (.bl (!decide (x ∈ xs))) H) : rNotInD K v (.ref a) H Q :=
  ⟨dV x, xs.map dV, hv.dp, h.dp hl, dV_shaped x, dVs_shaped xs, by rw [any_dV]; exact q⟩
/-- value[0], value[1] -/
theorem rd_kind (hv : VAt K H v x) {Q : VK} (q : Q (nV (Sv.kindN x)) H) : rIxT K v (.int 0) H Q := by
  obtain ⟨a, rfl, hs⟩ := hv.sq
  exact ⟨a, encV x, 0, _, rfl, rfl, hs, rfl, q⟩
theorem rd_num (hv : VAt K H v x) {Q : VK} (q : Q (nV (Sv.numN x)) H) : rIxT K v (.int 1) H Q := by
  obtain ⟨a, rfl, hs⟩ := hv.sq
  exact ⟨a, encV x, 1, _, rfl, rfl, hs, rfl, q⟩
/-- xs[i] of a list -/
theorem rd_ix {i : Int} {w : V} (hl : SqL K H a vs) (h0 : 0 ≤ i) (h : vs[i.toNat]? = some w) {Q : VK} (q : Q w H) : rIxL K (.ref a) (.int i) H Q := by
  refine ⟨a, vs, i, w, rfl, rfl, hl, ?_, q⟩
  have e : i = ((i.toNat : Nat) : Int) := by omega
  rw [e]
  exact atI_nat h
theorem rd_ixN {i : Nat} {w : V} (hl : SqL K H a vs) (h : vs[i]? = some w) {Q : VK} (q : Q w H) : rIxL K (.ref a) (nV i) H Q :=
  ⟨a, vs, (i : Int), w, rfl, rfl, hl, atI_nat h, q⟩
theorem nothing_at {mg : Str → Option Value} {c : Cad} (T : Txt K mg c) (F : Hp) : VAt K F (.ref c.nothing) .nothing := ⟨_, rfl, .inr T.tNOTHING⟩
end

/-! ### tables -/
def tab (n : Nat) (f : Nat → V) : List V := (List.range n).map f
theorem tab_len (n : Nat) (f : Nat → V) : (tab n f).length = n := by
  unfold tab
  rw [List.length_map, List.length_range]
theorem tab_get {n i : Nat} {f : Nat → V} (h : i < n) : (tab n f)[i]? = some (f i) := by
  unfold tab
  rw [List.getElem?_map, List.getElem?_range h]
  rfl
theorem tab_set {A : Type} {n k : Nat} {g : A → V} {f : Nat → A} {y : A} : (tab n fun i => g (f i)).set k (g y) = tab n fun i => g (Sv.fset f k y i) := by
  refine List.ext_getElem? fun i => ?_
  by_cases h : i < n
  · rw [tab_get h]
    by_cases e : k = i
    · subst e
      rw [List.getElem?_set_self (by rw [tab_len]; exact h), Sv.fset_same]
    · rw [List.getElem?_set_ne e, tab_get h, Sv.fset_ne (fun q => e q.symm)]
  · rw [List.getElem?_eq_none (by rw [List.length_set, tab_len]; omega), List.getElem?_eq_none (by rw [tab_len]; omega)]
theorem ixN_nat {n i : Nat} (h : i < n) : ixN n (i : Int) = some i := by
  unfold ixN
  rw [if_pos (by omega), if_pos (by omega)]
  rfl
theorem tab_rep (n : Nat) (v : V) : (List.replicate n v) = tab n fun _ => v := by
  refine List.ext_getElem? fun i => ?_
  by_cases h : i < n
  · rw [tab_get h, List.getElem?_replicate, if_pos h]
  · rw [List.getElem?_eq_none (by rw [List.length_replicate]; omega), List.getElem?_eq_none (by rw [tab_len]; omega)]

/-! ### the site in a heap -/
def LnAt (F : Hp) (v : V) (l : Vbxlaf.Line) : Prop := ∃ a b, v = .ref a ∧ F a = some (.tup [nV l.name.kind, nV l.name.number, nV l.stamp, nV (Sv.flagN l.rooted), .ref b]) ∧ F b = some (.lst (l.sources.map nV))
def LinesAt (F : Hp) (v : V) (ls : List Vbxlaf.Line) : Prop := ∃ a vs, v = .ref a ∧ F a = some (.lst vs) ∧ Pt (LnAt F) vs ls
def LedAt (F : Hp) (a : Addr) (led : Nat → List Nat) : Prop := ∃ vs, F a = some (.lst vs) ∧ vs.length = 41 ∧ ∀ i, i < 41 → ∃ b, vs[i]? = some (.ref b) ∧ F b = some (.lst ((led i).map nV))
theorem LnAt.mono {F F' : Hp} (e : Same F F') {v : V} {l : Vbxlaf.Line} (h : LnAt F v l) : LnAt F' v l := by
  obtain ⟨a, b, h1, h2, h3⟩ := h
  exact ⟨a, b, h1, e _ _ h2, e _ _ h3⟩
theorem LinesAt.mono {F F' : Hp} (e : Same F F') {v : V} {ls : List Vbxlaf.Line} (h : LinesAt F v ls) : LinesAt F' v ls := by
  obtain ⟨a, vs, h1, h2, h3⟩ := h
  exact ⟨a, vs, h1, e _ _ h2, h3.mono fun _ _ q => q.mono e⟩
theorem LedAt.mono {F F' : Hp} (e : Same F F') {a : Addr} {led : Nat → List Nat} (h : LedAt F a led) : LedAt F' a led := by
  obtain ⟨vs, h1, h2, h3⟩ := h
  refine ⟨vs, e _ _ h1, h2, fun i hi => ?_⟩
  obtain ⟨b, q1, q2⟩ := h3 i hi
  exact ⟨b, q1, e _ _ q2⟩
/-- the places whose objects change -/
def Foot (n : Nat) (L : Nat → Addr) (b : Addr) : Prop := ∃ i, i < n ∧ b = L i
/-- the heap without them -/
noncomputable def off (n : Nat) (L : Nat → Addr) (H : Hp) : Hp := fun b => @ite _ (Foot n L b) (Classical.propDecidable _) none (H b)
theorem off_some {n : Nat} {L : Nat → Addr} {H : Hp} {b : Addr} {o : HO} : off n L H b = some o ↔ H b = some o ∧ ¬ Foot n L b := by
  unfold off
  by_cases c : Foot n L b
  · rw [if_pos c]
    exact ⟨fun q => (by cases q), fun q => absurd c q.2⟩
  · rw [if_neg c]
    exact ⟨fun q => ⟨q, c⟩, fun q => q.1⟩
theorem off_sub {n : Nat} {L : Nat → Addr} {H : Hp} : Same (off n L H) H := fun _ _ q => (off_some.mp q).1
theorem off_same {n : Nat} {L : Nat → Addr} {H H' : Hp} (e : Same H H') : Same (off n L H) (off n L H') := fun b o q => off_some.mpr ⟨e b o (off_some.mp q).1, (off_some.mp q).2⟩
theorem off_upd {n : Nat} {L : Nat → Addr} {H : Hp} {b : Addr} {o : HO} (h : Foot n L b) : off n L (upd H b o) = off n L H := by
  funext a
  unfold off
  by_cases c : Foot n L a
  · rw [if_pos c, if_pos c]
  · rw [if_neg c, if_neg c]
    exact upd_ne fun e => c (by rw [e]; exact h)
def Cell (K : PySem.W.Frag) (c : Cad) (L : Nat → Addr) (F : Hp) (m : Sv.M) : Nat → Option HO → Prop
  | 0, o => ∃ dx, o = some (.ins c.Site dx [("heap", .ref (L 1)), ("names", .ref (L 2)), ("marks", .ref (L 3)), ("surveys", .ref (L 4))])
  | 1, o => ∃ dx, o = some (.ins c.Heap dx [("slots", .ref (L 5)), ("made", nV m.made), ("rows", .ref (L 6)), ("living", .ref (L 7))])
  | 2, o => ∃ dx, o = some (.ins c.Names dx [("uses", nV m.uses), ("entry_stamps", .ref (L 8)), ("import_stamps", .ref (L 9))])
  | 3, o => ∃ dx a, o = some (.ins c.Marks dx [("led", .ref a), ("slots_changed", .bl m.sc), ("changed", .ref (L 10)), ("fresh", .ref (L 11))]) ∧ LedAt F a m.led
  | 4, o => ∃ vs, o = some (.lst vs) ∧ Pt (LinesAt F) vs m.surveys
  | 5, o => ∃ vs, o = some (.lst vs) ∧ VsAt K F vs m.slots
  | 6, o => o = some (.lst (tab 41 fun i => .ref (L (i + 12))))
  | 7, o => o = some (.lst (tab 41 fun i => .bl (m.living i)))
  | 8, o => o = some (.lst (tab 41 fun i => nV (m.es i)))
  | 9, o => o = some (.lst (tab 21 fun i => nV (m.im i)))
  | 10, o => o = some (.lst (tab 41 fun i => .bl (m.changed i)))
  | 11, o => o = some (.lst (tab 41 fun i => .bl (m.fresh i)))
  | k + 12, o => ∃ vs, o = some (.lst vs) ∧ VsAt K F vs (m.rows k)
theorem Cell.mono {K : PySem.W.Frag} {c : Cad} {L : Nat → Addr} {F F' : Hp} {m : Sv.M} (e : Same F F') : ∀ {i : Nat} {o : Option HO}, Cell K c L F m i o → Cell K c L F' m i o
  | 0, _, h => h
  | 1, _, h => h
  | 2, _, h => h
  | 3, _, h => by
    obtain ⟨dx, a, h1, h2⟩ := h
    exact ⟨dx, a, h1, h2.mono e⟩
  | 4, _, h => by
    obtain ⟨vs, h1, h2⟩ := h
    exact ⟨vs, h1, h2.mono fun _ _ q => q.mono e⟩
  | 5, _, h => by
    obtain ⟨vs, h1, h2⟩ := h
    exact ⟨vs, h1, h2.mono e⟩
  | 6, _, h => h
  | 7, _, h => h
  | 8, _, h => h
  | 9, _, h => h
  | 10, _, h => h
  | 11, _, h => h
  | k + 12, _, h => by
    obtain ⟨vs, h1, h2⟩ := h
    exact ⟨vs, h1, h2.mono e⟩
theorem Cell.there {K : PySem.W.Frag} {c : Cad} {L : Nat → Addr} {F : Hp} {m : Sv.M} : ∀ {i : Nat} {o : Option HO}, Cell K c L F m i o → ∃ x, o = some x
  | 0, _, h => by obtain ⟨dx, h⟩ := h; exact ⟨_, h⟩
  | 1, _, h => by obtain ⟨dx, h⟩ := h; exact ⟨_, h⟩
  | 2, _, h => by obtain ⟨dx, h⟩ := h; exact ⟨_, h⟩
  | 3, _, h => by obtain ⟨dx, a, h, _⟩ := h; exact ⟨_, h⟩
  | 4, _, h => by obtain ⟨vs, h, _⟩ := h; exact ⟨_, h⟩
  | 5, _, h => by obtain ⟨vs, h, _⟩ := h; exact ⟨_, h⟩
  | 6, _, h => ⟨_, h⟩
  | 7, _, h => ⟨_, h⟩
  | 8, _, h => ⟨_, h⟩
  | 9, _, h => ⟨_, h⟩
  | 10, _, h => ⟨_, h⟩
  | 11, _, h => ⟨_, h⟩
  | k + 12, _, h => by obtain ⟨vs, h, _⟩ := h; exact ⟨_, h⟩
structure SiteAt (K : PySem.W.Frag) (c : Cad) (n : Nat) (L : Nat → Addr) (H : Hp) (m : Sv.M) : Prop where
  many : 53 ≤ n
  inj : ∀ i j, i < n → j < n → L i = L j → i = j
  cell : ∀ i, i < 53 → Cell K c L (off n L H) m i (H (L i))
  ext : ∀ i, 53 ≤ i → i < n → ∃ o, H (L i) = some o
/-- what stands: all but the site's own places; what is behind the first 53 -/
structure Fr (n : Nat) (L : Nat → Addr) (H : Hp) (L' : Nat → Addr) (H' : Hp) : Prop where
  same : Same (off n L H) (off n L' H')
  ext : ∀ i, 53 ≤ i → i < n → L' i = L i ∧ H' (L i) = H (L i)
  zero : L' 0 = L 0
section
variable {K : PySem.W.Frag} {mg : Str → Option Value} {c : Cad} {n : Nat} {L L' L2 : Nat → Addr} {H H' H2 : Hp} {m m' : Sv.M}
theorem Fr.refl : Fr n L H L H := ⟨Same.refl _, fun _ _ _ => ⟨rfl, rfl⟩, rfl⟩
theorem Fr.trans (a : Fr n L H L' H') (b : Fr n L' H' L2 H2) : Fr n L H L2 H2 := by
  refine ⟨a.same.trans b.same, fun i h1 h2 => ?_, b.zero.trans a.zero⟩
  obtain ⟨p, q⟩ := a.ext i h1 h2
  obtain ⟨r, s⟩ := b.ext i h1 h2
  exact ⟨r.trans p, by rw [p] at s; rw [s, q]⟩
theorem SiteAt.there (S : SiteAt K c n L H m) {i : Nat} (h : i < n) : ∃ o, H (L i) = some o := by
  rcases Nat.lt_or_ge i 53 with q | q
  · exact (S.cell i q).there
  · exact S.ext i q h
theorem SiteAt.same (S : SiteAt K c n L H m) (e : Same H H') : SiteAt K c n L H' m := by
  refine ⟨S.many, S.inj, fun i hi => ?_, fun i h1 h2 => ?_⟩
  · obtain ⟨o, q⟩ := S.there (i := i) (Nat.lt_of_lt_of_le hi S.many)
    have := (S.cell i hi).mono (off_same e)
    rw [q] at this
    rw [e _ _ q]
    exact this
  · obtain ⟨o, q⟩ := S.ext i h1 h2
    exact ⟨o, e _ _ q⟩
theorem Fr.ofSame (S : SiteAt K c n L H m) (e : Same H H') : Fr n L H L H' := by
  refine ⟨off_same e, fun i h1 h2 => ⟨rfl, ?_⟩, rfl⟩
  obtain ⟨o, q⟩ := S.ext i h1 h2
  rw [q, e _ _ q]
/-- a new address is none of the site's -/
theorem SiteAt.new (S : SiteAt K c n L H m) {p : Addr} (h : H p = none) : ¬ Foot n L p := fun ⟨i, hi, e⟩ => by
  obtain ⟨o, q⟩ := S.there hi
  rw [e, q] at h
  cases h
/-- a change of one of its own objects -/
theorem SiteAt.change (S : SiteAt K c n L H m) {j : Nat} (hj : j < 53) {o : HO} (h1 : Cell K c L (off n L H) m' j (some o))
    (h2 : ∀ i, i < 53 → i ≠ j → ∀ x, Cell K c L (off n L H) m i x → Cell K c L (off n L H) m' i x) : SiteAt K c n L (upd H (L j) o) m' ∧ Fr n L H L (upd H (L j) o) := by
  have hjn : j < n := Nat.lt_of_lt_of_le hj S.many
  have ft : Foot n L (L j) := ⟨j, hjn, rfl⟩
  have other : ∀ i, i < n → i ≠ j → (upd H (L j) o) (L i) = H (L i) := fun i hi e => upd_ne fun q => e (S.inj i j hi hjn q)
  refine ⟨⟨S.many, S.inj, fun i hi => ?_, fun i h3 h4 => ?_⟩, ⟨by rw [off_upd ft]; exact Same.refl _, fun i h3 h4 => ⟨rfl, other i h4 (by omega)⟩, rfl⟩⟩
  · rw [off_upd ft]
    by_cases e : i = j
    · subst e
      rw [upd_same]
      exact h1
    · rw [other i (Nat.lt_of_lt_of_le hi S.many) e]
      exact h2 i hi e _ (S.cell i hi)
  · rw [other i h4 (by omega)]
    exact S.ext i h3 h4
/-! the parts -/
theorem SiteAt.c0 (S : SiteAt K c n L H m) : ∃ dx, H (L 0) = some (.ins c.Site dx [("heap", .ref (L 1)), ("names", .ref (L 2)), ("marks", .ref (L 3)), ("surveys", .ref (L 4))]) := S.cell 0 (by decide)
theorem SiteAt.c1 (S : SiteAt K c n L H m) : ∃ dx, H (L 1) = some (.ins c.Heap dx [("slots", .ref (L 5)), ("made", nV m.made), ("rows", .ref (L 6)), ("living", .ref (L 7))]) := S.cell 1 (by decide)
theorem SiteAt.c2 (S : SiteAt K c n L H m) : ∃ dx, H (L 2) = some (.ins c.Names dx [("uses", nV m.uses), ("entry_stamps", .ref (L 8)), ("import_stamps", .ref (L 9))]) := S.cell 2 (by decide)
theorem SiteAt.c3 (S : SiteAt K c n L H m) : ∃ dx a, H (L 3) = some (.ins c.Marks dx [("led", .ref a), ("slots_changed", .bl m.sc), ("changed", .ref (L 10)), ("fresh", .ref (L 11))]) ∧ LedAt (off n L H) a m.led := S.cell 3 (by decide)
theorem SiteAt.c4 (S : SiteAt K c n L H m) : ∃ vs, H (L 4) = some (.lst vs) ∧ Pt (LinesAt (off n L H)) vs m.surveys := S.cell 4 (by decide)
theorem SiteAt.c5 (S : SiteAt K c n L H m) : ∃ vs, H (L 5) = some (.lst vs) ∧ VsAt K (off n L H) vs m.slots := S.cell 5 (by decide)
theorem SiteAt.c6 (S : SiteAt K c n L H m) : H (L 6) = some (.lst (tab 41 fun i => .ref (L (i + 12)))) := S.cell 6 (by decide)
theorem SiteAt.c7 (S : SiteAt K c n L H m) : H (L 7) = some (.lst (tab 41 fun i => .bl (m.living i))) := S.cell 7 (by decide)
theorem SiteAt.c8 (S : SiteAt K c n L H m) : H (L 8) = some (.lst (tab 41 fun i => nV (m.es i))) := S.cell 8 (by decide)
theorem SiteAt.c9 (S : SiteAt K c n L H m) : H (L 9) = some (.lst (tab 21 fun i => nV (m.im i))) := S.cell 9 (by decide)
theorem SiteAt.c10 (S : SiteAt K c n L H m) : H (L 10) = some (.lst (tab 41 fun i => .bl (m.changed i))) := S.cell 10 (by decide)
theorem SiteAt.c11 (S : SiteAt K c n L H m) : H (L 11) = some (.lst (tab 41 fun i => .bl (m.fresh i))) := S.cell 11 (by decide)
theorem SiteAt.row (S : SiteAt K c n L H m) {k : Nat} (h : k < 41) : ∃ vs, H (L (k + 12)) = some (.lst vs) ∧ VsAt K (off n L H) vs (m.rows k) := S.cell (k + 12) (by omega)

/-! the readings of its attributes -/
theorem lk_here {k : Str} {v : V} {r : List (Str × V)} : List.lookup k ((k, v) :: r) = some v := by
  have e : (k == k) = true := beq_self_eq_true k
  simp only [List.lookup, e]
theorem lk_past {k g : Str} {v : V} {r : List (Str × V)} (h : (k == g) = false) : List.lookup k ((g, v) :: r) = List.lookup k r := by
  simp only [List.lookup, h]
/-- what a field's reading asks -/
abbrev Fd (K : PySem.W.Frag) (H : Hp) (Q : VK) (x : V) (f : Str) : Prop := ∃ a C dx fs v, x = V.ref a ∧ H a = some (HO.ins C dx fs) ∧ Cls K C ∧ NoAttr K C f ∧ fs.lookup f = some v ∧ Q v H
variable {Q : VK}
theorem rd_heap (T : Txt K mg c) (S : SiteAt K c n L H m) (q : Q (.ref (L 1)) H) : Fd K H Q (.ref (L 0)) "heap" := by
  obtain ⟨dx, h⟩ := S.c0
  exact ⟨_, _, dx, _, _, rfl, h, T.cSite, T.nheap, lk_here, q⟩
theorem rd_names (T : Txt K mg c) (S : SiteAt K c n L H m) (q : Q (.ref (L 2)) H) : Fd K H Q (.ref (L 0)) "names" := by
  obtain ⟨dx, h⟩ := S.c0
  exact ⟨_, _, dx, _, _, rfl, h, T.cSite, T.nnames, (lk_past (by decide)).trans lk_here, q⟩
theorem rd_marks (T : Txt K mg c) (S : SiteAt K c n L H m) (q : Q (.ref (L 3)) H) : Fd K H Q (.ref (L 0)) "marks" := by
  obtain ⟨dx, h⟩ := S.c0
  exact ⟨_, _, dx, _, _, rfl, h, T.cSite, T.nmarks, (lk_past (by decide)).trans ((lk_past (by decide)).trans lk_here), q⟩
theorem rd_surveys (T : Txt K mg c) (S : SiteAt K c n L H m) (q : Q (.ref (L 4)) H) : Fd K H Q (.ref (L 0)) "surveys" := by
  obtain ⟨dx, h⟩ := S.c0
  exact ⟨_, _, dx, _, _, rfl, h, T.cSite, T.nsurveys, (lk_past (by decide)).trans ((lk_past (by decide)).trans ((lk_past (by decide)).trans lk_here)), q⟩
theorem rd_slots (T : Txt K mg c) (S : SiteAt K c n L H m) (q : Q (.ref (L 5)) H) : Fd K H Q (.ref (L 1)) "slots" := by
  obtain ⟨dx, h⟩ := S.c1
  exact ⟨_, _, dx, _, _, rfl, h, T.cHeap, T.nslots, lk_here, q⟩
theorem rd_made (T : Txt K mg c) (S : SiteAt K c n L H m) (q : Q (nV m.made) H) : Fd K H Q (.ref (L 1)) "made" := by
  obtain ⟨dx, h⟩ := S.c1
  exact ⟨_, _, dx, _, _, rfl, h, T.cHeap, T.nmade, (lk_past (by decide)).trans lk_here, q⟩
theorem rd_rows (T : Txt K mg c) (S : SiteAt K c n L H m) (q : Q (.ref (L 6)) H) : Fd K H Q (.ref (L 1)) "rows" := by
  obtain ⟨dx, h⟩ := S.c1
  exact ⟨_, _, dx, _, _, rfl, h, T.cHeap, T.nrows, (lk_past (by decide)).trans ((lk_past (by decide)).trans lk_here), q⟩
theorem rd_living (T : Txt K mg c) (S : SiteAt K c n L H m) (q : Q (.ref (L 7)) H) : Fd K H Q (.ref (L 1)) "living" := by
  obtain ⟨dx, h⟩ := S.c1
  exact ⟨_, _, dx, _, _, rfl, h, T.cHeap, T.nliving, (lk_past (by decide)).trans ((lk_past (by decide)).trans ((lk_past (by decide)).trans lk_here)), q⟩
theorem rd_uses (T : Txt K mg c) (S : SiteAt K c n L H m) (q : Q (nV m.uses) H) : Fd K H Q (.ref (L 2)) "uses" := by
  obtain ⟨dx, h⟩ := S.c2
  exact ⟨_, _, dx, _, _, rfl, h, T.cNames, T.nuses, lk_here, q⟩
theorem rd_es (T : Txt K mg c) (S : SiteAt K c n L H m) (q : Q (.ref (L 8)) H) : Fd K H Q (.ref (L 2)) "entry_stamps" := by
  obtain ⟨dx, h⟩ := S.c2
  exact ⟨_, _, dx, _, _, rfl, h, T.cNames, T.nes, (lk_past (by decide)).trans lk_here, q⟩
theorem rd_im (T : Txt K mg c) (S : SiteAt K c n L H m) (q : Q (.ref (L 9)) H) : Fd K H Q (.ref (L 2)) "import_stamps" := by
  obtain ⟨dx, h⟩ := S.c2
  exact ⟨_, _, dx, _, _, rfl, h, T.cNames, T.nim, (lk_past (by decide)).trans ((lk_past (by decide)).trans lk_here), q⟩
theorem rd_led (T : Txt K mg c) (S : SiteAt K c n L H m) (q : ∀ a, LedAt H a m.led → Q (.ref a) H) : Fd K H Q (.ref (L 3)) "led" := by
  obtain ⟨dx, a, h, hl⟩ := S.c3
  exact ⟨_, _, dx, _, _, rfl, h, T.cMarks, T.nled, lk_here, q a (hl.mono off_sub)⟩
theorem rd_sc (T : Txt K mg c) (S : SiteAt K c n L H m) (q : Q (.bl m.sc) H) : Fd K H Q (.ref (L 3)) "slots_changed" := by
  obtain ⟨dx, a, h, hl⟩ := S.c3
  exact ⟨_, _, dx, _, _, rfl, h, T.cMarks, T.nsc, (lk_past (by decide)).trans lk_here, q⟩
theorem rd_changed (T : Txt K mg c) (S : SiteAt K c n L H m) (q : Q (.ref (L 10)) H) : Fd K H Q (.ref (L 3)) "changed" := by
  obtain ⟨dx, a, h, hl⟩ := S.c3
  exact ⟨_, _, dx, _, _, rfl, h, T.cMarks, T.nchanged, (lk_past (by decide)).trans ((lk_past (by decide)).trans lk_here), q⟩
theorem rd_fresh (T : Txt K mg c) (S : SiteAt K c n L H m) (q : Q (.ref (L 11)) H) : Fd K H Q (.ref (L 3)) "fresh" := by
  obtain ⟨dx, a, h, hl⟩ := S.c3
  exact ⟨_, _, dx, _, _, rfl, h, T.cMarks, T.nfresh, (lk_past (by decide)).trans ((lk_past (by decide)).trans ((lk_past (by decide)).trans lk_here)), q⟩
end

/-! ### readings without a new object: what an expression, a test, arguments come to -/
def Va (te : TE) (σ : L2.St) (H : Hp) (v : V) : Prop := ∀ Q : VK, Q v H → te σ H Q
def An (tt : TT) (σ : L2.St) (H : Hp) (b : Bool) : Prop := ∀ Q : Bool → Hp → Prop, Q b H → tt σ H Q
section
variable {K : PySem.W.Frag} {mg : Str → Option Value} {c : Cad} {n : Nat} {L : Nat → Addr} {H : Hp} {m : Sv.M} {σ : L2.St} {te ta tb td tg : TE} {v x y z : V} {i j : Int} {t u : TT} {a b : Bool} {Q : VK}
theorem v_var {k : Nat} (h : σ[k]? = some (some v)) : Va (tVar k) σ H v := fun _ q => ⟨v, h, q⟩
theorem v_c : Va (fun _ H Q => Q v H) σ H v := fun _ q => q
theorem v_fld {p C dx : Addr} {fs : List (Str × V)} {f : Str} (ha : Va te σ H (.ref p)) (h : H p = some (.ins C dx fs)) (hc : Cls K C) (hn : NoAttr K C f) (hl : fs.lookup f = some v) : Va (tFld K te f) σ H v :=
  fun _ q => ha _ ⟨_, _, dx, _, _, rfl, h, hc, hn, hl, q⟩
theorem v_heap (T : Txt K mg c) (S : SiteAt K c n L H m) (ha : Va te σ H (.ref (L 0))) : Va (tFld K te "heap") σ H (.ref (L 1)) := fun _ q => ha _ (rd_heap T S q)
theorem v_names (T : Txt K mg c) (S : SiteAt K c n L H m) (ha : Va te σ H (.ref (L 0))) : Va (tFld K te "names") σ H (.ref (L 2)) := fun _ q => ha _ (rd_names T S q)
theorem v_marks (T : Txt K mg c) (S : SiteAt K c n L H m) (ha : Va te σ H (.ref (L 0))) : Va (tFld K te "marks") σ H (.ref (L 3)) := fun _ q => ha _ (rd_marks T S q)
theorem v_surveys (T : Txt K mg c) (S : SiteAt K c n L H m) (ha : Va te σ H (.ref (L 0))) : Va (tFld K te "surveys") σ H (.ref (L 4)) := fun _ q => ha _ (rd_surveys T S q)
theorem v_slots (T : Txt K mg c) (S : SiteAt K c n L H m) (ha : Va te σ H (.ref (L 1))) : Va (tFld K te "slots") σ H (.ref (L 5)) := fun _ q => ha _ (rd_slots T S q)
theorem v_made (T : Txt K mg c) (S : SiteAt K c n L H m) (ha : Va te σ H (.ref (L 1))) : Va (tFld K te "made") σ H (nV m.made) := fun _ q => ha _ (rd_made T S q)
theorem v_rows (T : Txt K mg c) (S : SiteAt K c n L H m) (ha : Va te σ H (.ref (L 1))) : Va (tFld K te "rows") σ H (.ref (L 6)) := fun _ q => ha _ (rd_rows T S q)
theorem v_living (T : Txt K mg c) (S : SiteAt K c n L H m) (ha : Va te σ H (.ref (L 1))) : Va (tFld K te "living") σ H (.ref (L 7)) := fun _ q => ha _ (rd_living T S q)
theorem v_uses (T : Txt K mg c) (S : SiteAt K c n L H m) (ha : Va te σ H (.ref (L 2))) : Va (tFld K te "uses") σ H (nV m.uses) := fun _ q => ha _ (rd_uses T S q)
theorem v_es (T : Txt K mg c) (S : SiteAt K c n L H m) (ha : Va te σ H (.ref (L 2))) : Va (tFld K te "entry_stamps") σ H (.ref (L 8)) := fun _ q => ha _ (rd_es T S q)
theorem v_im (T : Txt K mg c) (S : SiteAt K c n L H m) (ha : Va te σ H (.ref (L 2))) : Va (tFld K te "import_stamps") σ H (.ref (L 9)) := fun _ q => ha _ (rd_im T S q)
theorem v_sc (T : Txt K mg c) (S : SiteAt K c n L H m) (ha : Va te σ H (.ref (L 3))) : Va (tFld K te "slots_changed") σ H (.bl m.sc) := fun _ q => ha _ (rd_sc T S q)
theorem v_changed (T : Txt K mg c) (S : SiteAt K c n L H m) (ha : Va te σ H (.ref (L 3))) : Va (tFld K te "changed") σ H (.ref (L 10)) := fun _ q => ha _ (rd_changed T S q)
theorem v_fresh (T : Txt K mg c) (S : SiteAt K c n L H m) (ha : Va te σ H (.ref (L 3))) : Va (tFld K te "fresh") σ H (.ref (L 11)) := fun _ q => ha _ (rd_fresh T S q)
theorem v_op {r : R2} (ha : Va ta σ H x) (hb : Va tb σ H y) (h : ∀ Q : VK, Q z H → r x y H Q) : Va (tOp r ta tb) σ H z := fun _ q => ha _ (hb _ (h _ q))
theorem v_add (ha : Va ta σ H (.int i)) (hb : Va tb σ H (.int j)) : Va (tOp (rI0 fun i j => .int (i + j)) ta tb) σ H (.int (i + j)) := v_op ha hb fun _ q => ⟨i, j, rfl, rfl, q⟩
theorem v_sub (ha : Va ta σ H (.int i)) (hb : Va tb σ H (.int j)) : Va (tOp (rI0 fun i j => .int (i - j)) ta tb) σ H (.int (i - j)) := v_op ha hb fun _ q => ⟨i, j, rfl, rfl, q⟩
theorem v_lt (ha : Va ta σ H (.int i)) (hb : Va tb σ H (.int j)) : Va (tOp (rI0 fun i j => .bl (decide (i < j))) ta tb) σ H (.bl (decide (i < j))) := v_op ha hb fun _ q => ⟨i, j, rfl, rfl, q⟩
theorem v_le (ha : Va ta σ H (.int i)) (hb : Va tb σ H (.int j)) : Va (tOp (rI0 fun i j => .bl (decide (i ≤ j))) ta tb) σ H (.bl (decide (i ≤ j))) := v_op ha hb fun _ q => ⟨i, j, rfl, rfl, q⟩
theorem v_gt (ha : Va ta σ H (.int i)) (hb : Va tb σ H (.int j)) : Va (tOp (rI0 fun i j => .bl (decide (j < i))) ta tb) σ H (.bl (decide (j < i))) := v_op ha hb fun _ q => ⟨i, j, rfl, rfl, q⟩
theorem v_ge (ha : Va ta σ H (.int i)) (hb : Va tb σ H (.int j)) : Va (tOp (rI0 fun i j => .bl (decide (j ≤ i))) ta tb) σ H (.bl (decide (j ≤ i))) := v_op ha hb fun _ q => ⟨i, j, rfl, rfl, q⟩
theorem v_eq (ha : Va ta σ H (.int i)) (hb : Va tb σ H (.int j)) : Va (tOp rEq ta tb) σ H (.bl (decide (i = j))) := v_op ha hb fun _ q => ⟨rfl, by rw [dec_int, Bool.beq_eq_decide_eq]; exact q⟩
theorem v_ne (ha : Va ta σ H (.int i)) (hb : Va tb σ H (.int j)) : Va (tOp rNe ta tb) σ H (.bl (!decide (i = j))) := v_op ha hb fun _ q => ⟨rfl, by rw [dec_int, Bool.beq_eq_decide_eq]; exact q⟩
theorem v_isN (ha : Va ta σ H x) : Va (tOp (fun x y H Q => y = .non ∧ Q (.bl (decide (x = .non))) H) ta (fun _ H Q => Q .non H)) σ H (.bl (decide (x = .non))) := fun _ q => ha _ ⟨rfl, q⟩
theorem v_eqD {xx yy : Vl} (ha : Va ta σ H x) (hb : Va tb σ H y) (h1 : VAt K H x xx) (h2 : VAt K H y yy) : Va (tOp (rEqD K) ta tb) σ H (.bl (decide (xx = yy))) := v_op ha hb fun _ q => rd_eq h1 h2 q
theorem v_neD {xx yy : Vl} (ha : Va ta σ H x) (hb : Va tb σ H y) (h1 : VAt K H x xx) (h2 : VAt K H y yy) : Va (tOp (rNeD K) ta tb) σ H (.bl (!decide (xx = yy))) := v_op ha hb fun _ q => rd_ne h1 h2 q
theorem v_inD {p : Addr} {vs : List V} {xs : List Vl} {xx : Vl} (ha : Va ta σ H x) (hb : Va tb σ H (.ref p)) (h1 : VAt K H x xx) (h2 : SqL K H p vs) (h3 : VsAt K H vs xs) : Va (tOp (rInD K) ta tb) σ H (.bl (decide (xx ∈ xs))) :=
  v_op ha hb fun _ q => rd_in h1 h2 h3 q
theorem v_notInD {p : Addr} {vs : List V} {xs : List Vl} {xx : Vl} (ha : Va ta σ H x) (hb : Va tb σ H (.ref p)) (h1 : VAt K H x xx) (h2 : SqL K H p vs) (h3 : VsAt K H vs xs) : Va (tOp (rNotInD K) ta tb) σ H (.bl (!decide (xx ∈ xs))) :=
  v_op ha hb fun _ q => rd_notIn h1 h2 h3 q
theorem v_kind {xx : Vl} (ha : Va ta σ H x) (h : VAt K H x xx) : Va (tOp (rIxT K) ta (fun _ H Q => Q (.int 0) H)) σ H (nV (Sv.kindN xx)) := fun _ q => ha _ (rd_kind h q)
theorem v_num {xx : Vl} (ha : Va ta σ H x) (h : VAt K H x xx) : Va (tOp (rIxT K) ta (fun _ H Q => Q (.int 1) H)) σ H (nV (Sv.numN xx)) := fun _ q => ha _ (rd_num h q)
theorem v_ix {p : Addr} {vs : List V} (ha : Va ta σ H (.ref p)) (hb : Va tb σ H (.int i)) (h : SqL K H p vs) (h0 : 0 ≤ i) (hi : vs[i.toNat]? = some v) : Va (tOp (rIxL K) ta tb) σ H v := v_op ha hb fun _ q => rd_ix h h0 hi q
theorem v_ixN {p : Addr} {vs : List V} {k : Nat} (ha : Va ta σ H (.ref p)) (hb : Va tb σ H (nV k)) (h : SqL K H p vs) (hi : vs[k]? = some v) : Va (tOp (rIxL K) ta tb) σ H v := v_op ha hb fun _ q => rd_ixN h hi q
theorem v_ixT {p : Addr} {vs : List V} {k : Nat} (ha : Va ta σ H (.ref p)) (hb : Va tb σ H (nV k)) (h : SqT K H p vs) (hi : vs[k]? = some v) : Va (tOp (rIxT K) ta tb) σ H v :=
  v_op ha hb fun _ q => ⟨p, vs, (k : Int), v, rfl, rfl, h, atI_nat hi, q⟩
def rLen (K : PySem.W.Frag) : List V → Hp → VK → Prop := fun xs H Q => ∃ p ys, xs = [.ref p] ∧ (SqL K H p ys ∨ SqT K H p ys) ∧ Q (.int ys.length) H
theorem v_len {p : Addr} {vs : List V} (ha : Va ta σ H (.ref p)) (h : SqL K H p vs) : Va (tCB (fun xs H Q => ∃ p ys, xs = [.ref p] ∧ (SqL K H p ys ∨ SqT K H p ys) ∧ Q (.int ys.length) H) (tCons ta tNil)) σ H (nV vs.length) :=
  fun _ q => ha _ ⟨p, vs, rfl, .inl h, q⟩
theorem v_chain {r r' : R2} (ha : Va ta σ H x) (hb : Va tb σ H y) (hc : Va td σ H z) (h : ∀ Q : VK, Q (.bl a) H → r x y H Q) (h' : ∀ Q : VK, Q (.bl b) H → r' y z H Q) : Va (tChain r r' ta tb td) σ H (.bl (a && b)) := fun _ q =>
  ha _ (hb _ (h _ ⟨a, rfl, by
    cases a with
    | true =>
      rw [if_pos rfl]
      exact hc _ (h' _ q)
    | false =>
      rw [if_neg Bool.false_ne_true]
      exact q⟩))
theorem v_and (ha : Va ta σ H (.bl a)) (hb : a = true → Va tb σ H (.bl b)) : Va (tAndV ta tb) σ H (.bl (a && b)) := fun _ q => ha _ ⟨a, rfl, by
  cases a with
  | true =>
    rw [if_pos rfl]
    exact hb rfl _ q
  | false =>
    rw [if_neg Bool.false_ne_true]
    exact q⟩
theorem v_or (ha : Va ta σ H (.bl a)) (hb : a = false → Va tb σ H (.bl b)) : Va (tOrV ta tb) σ H (.bl (a || b)) := fun _ q => ha _ ⟨a, rfl, by
  cases a with
  | true =>
    rw [if_pos rfl]
    exact q
  | false =>
    rw [if_neg Bool.false_ne_true]
    exact hb rfl _ q⟩
theorem v_if (hc : An t σ H a) (h1 : a = true → Va ta σ H v) (h2 : a = false → Va tb σ H v) : Va (tIf t ta tb) σ H v := fun _ q => hc _ (by
  cases a with
  | true =>
    rw [if_pos rfl]
    exact h1 rfl _ q
  | false =>
    rw [if_neg Bool.false_ne_true]
    exact h2 rfl _ q)
theorem Va.to {v' : V} (h : Va te σ H v) (e : v = v') : Va te σ H v' := e ▸ h
/-! tests -/
theorem a_test (h : Va te σ H (.bl a)) : An (tTest te) σ H a := fun _ q => h _ ⟨a, rfl, q⟩
theorem a_B (h : Va te σ H (.bl a)) : An (tB te) σ H a := fun _ q => h _ ⟨a, rfl, q⟩
theorem a_not (h : An t σ H a) : An (tNot t) σ H (!a) := fun _ q => h _ q
theorem a_and (h1 : An t σ H a) (h2 : a = true → An u σ H b) : An (tAnd t u) σ H (a && b) := fun _ q => h1 _ (by
  cases a with
  | true =>
    rw [if_pos rfl]
    exact h2 rfl _ q
  | false =>
    rw [if_neg Bool.false_ne_true]
    exact q)
theorem a_or (h1 : An t σ H a) (h2 : a = false → An u σ H b) : An (tOr t u) σ H (a || b) := fun _ q => h1 _ (by
  cases a with
  | true =>
    rw [if_pos rfl]
    exact q
  | false =>
    rw [if_neg Bool.false_ne_true]
    exact h2 rfl _ q)
theorem An.to (h : An t σ H a) (e : a = b) : An t σ H b := e ▸ h
/-! statements -/
theorem s_if {ts us : TS} {D : Ends} (h : An t σ H a) (h1 : a = true → ts D σ H) (h2 : a = false → us D σ H) : tIfS t ts us D σ H := h _ (by
  cases a with
  | true =>
    rw [if_pos rfl]
    exact h1 rfl
  | false =>
    rw [if_neg Bool.false_ne_true]
    exact h2 rfl)
theorem s_ret {D : Ends} (h : Va te σ H v) (q : D.rt v H) : tRet te D σ H := h _ q
theorem s_set {D : Ends} {k : Nat} (h : Va te σ H v) (q : D.nx (σ.set k (some v)) H) : tAsg te (gName k) D σ H := h _ q
theorem s_aug {D : Ends} {k : Nat} (h0 : σ[k]? = some (some (.int i))) (h : Va te σ H (.int j)) (q : D.nx (σ.set k (some (.int (i + j)))) H) : tAug k te (ipI fun i j => i + j) D σ H := ⟨_, h0, h _ ⟨i, j, rfl, rfl, q⟩⟩
/-- a new list, a new tuple -/
theorem n_nil (q : ∀ p, H p = none → Q (.ref p) (upd H p (.lst []))) : tLst tNil σ H Q := ⟨Nat.zero_le _, q⟩
theorem n_l1 (ha : Va ta σ H x) (q : ∀ p, H p = none → Q (.ref p) (upd H p (.lst [x]))) : tLst (tCons ta tNil) σ H Q := ha _ ⟨(by show 1 ≤ sizeLine; decide), q⟩
theorem n_l2 (ha : Va ta σ H x) (hb : Va tb σ H y) (q : ∀ p, H p = none → Q (.ref p) (upd H p (.lst [x, y]))) : tLst (tCons ta (tCons tb tNil)) σ H Q := ha _ (hb _ ⟨(by show 2 ≤ sizeLine; decide), q⟩)
theorem n_t2 (ha : Va ta σ H x) (hb : Va tb σ H y) (q : ∀ p, H p = none → Q (.ref p) (upd H p (.tup [x, y]))) : tTup (tCons ta (tCons tb tNil)) σ H Q := ha _ (hb _ ⟨(by show 2 ≤ sizeLine; decide), q⟩)
/-! calls -/
variable {sp : Sp}
theorem c_1 (ha : Va ta σ H x) (h : sp [x] H Q E0) : tCall sp [] E0 (tCons ta tNil) σ H Q := ha _ h
theorem c_2 (ha : Va ta σ H x) (hb : Va tb σ H y) (h : sp [x, y] H Q E0) : tCall sp [] E0 (tCons ta (tCons tb tNil)) σ H Q := ha _ (hb _ h)
theorem c_3 (ha : Va ta σ H x) (hb : Va tb σ H y) (hd : Va td σ H z) (h : sp [x, y, z] H Q E0) : tCall sp [] E0 (tCons ta (tCons tb (tCons td tNil))) σ H Q := ha _ (hb _ (hd _ h))
theorem c_4 (ha : Va ta σ H x) (hb : Va tb σ H y) (hd : Va td σ H z) (hg : Va tg σ H v) (h : sp [x, y, z, v] H Q E0) : tCall sp [] E0 (tCons ta (tCons tb (tCons td (tCons tg tNil)))) σ H Q := ha _ (hb _ (hd _ (hg _ h)))
/-- what a method's call asks of its object -/
def ObjC (H : Hp) (C : Addr) (m : Str) (p : Addr) : Prop := ∃ dx fs, H p = some (.ins C dx fs) ∧ fs.lookup m = none
theorem m_0 {C p : Addr} {f : Str} (ho : Va te σ H (.ref p)) (h0 : ObjC H C f p) (h : sp [.ref p] H Q E0) : tMeth C f sp [] E0 te tNil σ H Q := by
  obtain ⟨dx, fs, h1, h2⟩ := h0
  exact ho _ ⟨p, dx, fs, rfl, h1, h2, h⟩
theorem m_1 {C p : Addr} {f : Str} (ho : Va te σ H (.ref p)) (h0 : ObjC H C f p) (ha : Va ta σ H x) (h : sp [.ref p, x] H Q E0) : tMeth C f sp [] E0 te (tCons ta tNil) σ H Q := by
  obtain ⟨dx, fs, h1, h2⟩ := h0
  exact ho _ ⟨p, dx, fs, rfl, h1, h2, ha _ h⟩
theorem m_2 {C p : Addr} {f : Str} (ho : Va te σ H (.ref p)) (h0 : ObjC H C f p) (ha : Va ta σ H x) (hb : Va tb σ H y) (h : sp [.ref p, x, y] H Q E0) : tMeth C f sp [] E0 te (tCons ta (tCons tb tNil)) σ H Q := by
  obtain ⟨dx, fs, h1, h2⟩ := h0
  exact ho _ ⟨p, dx, fs, rfl, h1, h2, ha _ (hb _ h)⟩
theorem m_3 {C p : Addr} {f : Str} (ho : Va te σ H (.ref p)) (h0 : ObjC H C f p) (ha : Va ta σ H x) (hb : Va tb σ H y) (hd : Va td σ H z) (h : sp [.ref p, x, y, z] H Q E0) : tMeth C f sp [] E0 te (tCons ta (tCons tb (tCons td tNil))) σ H Q := by
  obtain ⟨dx, fs, h1, h2⟩ := h0
  exact ho _ ⟨p, dx, fs, rfl, h1, h2, ha _ (hb _ (hd _ h))⟩
theorem SiteAt.o0 (S : SiteAt K c n L H m) {f : Str} (h : List.lookup f [(("heap" : Str), V.ref (L 1)), ("names", .ref (L 2)), ("marks", .ref (L 3)), ("surveys", .ref (L 4))] = none) : ObjC H c.Site f (L 0) := by
  obtain ⟨dx, q⟩ := S.c0
  exact ⟨dx, _, q, h⟩
theorem SiteAt.o1 (S : SiteAt K c n L H m) {f : Str} (h : List.lookup f [(("slots" : Str), V.ref (L 5)), ("made", nV m.made), ("rows", .ref (L 6)), ("living", .ref (L 7))] = none) : ObjC H c.Heap f (L 1) := by
  obtain ⟨dx, q⟩ := S.c1
  exact ⟨dx, _, q, h⟩
theorem SiteAt.o2 (S : SiteAt K c n L H m) {f : Str} (h : List.lookup f [(("uses" : Str), nV m.uses), ("entry_stamps", .ref (L 8)), ("import_stamps", .ref (L 9))] = none) : ObjC H c.Names f (L 2) := by
  obtain ⟨dx, q⟩ := S.c2
  exact ⟨dx, _, q, h⟩
theorem SiteAt.o3 (S : SiteAt K c n L H m) {f : Str} (h : ∀ a : Addr, List.lookup f [(("led" : Str), V.ref a), ("slots_changed", .bl m.sc), ("changed", .ref (L 10)), ("fresh", .ref (L 11))] = none) : ObjC H c.Marks f (L 3) := by
  obtain ⟨dx, a, q, _⟩ := S.c3
  exact ⟨dx, _, q, h a⟩
theorem lk3 {k a b d : Str} {x y z : V} (h1 : (k == a) = false) (h2 : (k == b) = false) (h3 : (k == d) = false) : List.lookup k [(a, x), (b, y), (d, z)] = none := (lk_past h1).trans ((lk_past h2).trans ((lk_past h3).trans rfl))
theorem lk4 {k a b d e : Str} {x y z v : V} (h1 : (k == a) = false) (h2 : (k == b) = false) (h3 : (k == d) = false) (h4 : (k == e) = false) : List.lookup k [(a, x), (b, y), (d, z), (e, v)] = none :=
  (lk_past h1).trans ((lk_past h2).trans ((lk_past h3).trans ((lk_past h4).trans rfl)))
/-! statements, one behind another -/
section
variable {D : Ends} {ts us : TS} {k : Nat} {g : TG} {wi : TI}
theorem gN {Q : L2.St → Hp → Prop} (h : Q (σ.set k (some v)) H) : gName k v σ H Q := h
theorem seq_set (h : te σ H fun x H1 => us D (σ.set k (some x)) H1) : tSeq (tAsg te (gName k)) us D σ H := h
theorem seq_asg (h : te σ H fun x H1 => g x σ H1 (us D)) : tSeq (tAsg te g) us D σ H := h
theorem seq_drop (h : te σ H fun _ H1 => us D σ H1) : tSeq (tDrop te) us D σ H := h
theorem seq_aug (h0 : σ[k]? = some (some (.int i))) (h : Va te σ H (.int j)) (q : us D (σ.set k (some (.int (i + j)))) H) : tSeq (tAug k te (ipI fun i j => i + j)) us D σ H := s_aug h0 h q
theorem seq_ret (h : An t σ H a) (h1 : a = true → te σ H D.rt) (h2 : a = false → us D σ H) : tSeq (tIfS t (tRet te) tNext) us D σ H := h _ (by
  cases a with
  | true =>
    rw [if_pos rfl]
    exact h1 rfl
  | false =>
    rw [if_neg Bool.false_ne_true]
    exact h2 rfl)
theorem seq_if {ts' : TS} (h : An t σ H a) (h1 : a = true → ts { D with nx := us D } σ H) (h2 : a = false → ts' { D with nx := us D } σ H) : tSeq (tIfS t ts ts') us D σ H := s_if h h1 h2
theorem seq_if1 (h : An t σ H a) (h1 : a = true → te σ H fun _ H1 => us D σ H1) (h2 : a = false → us D σ H) : tSeq (tIfS t (tDrop te) tNext) us D σ H := s_if h h1 h2
theorem drop1 (h : te σ H fun _ H1 => D.nx σ H1) : tDrop te D σ H := h
theorem ret1 (h : te σ H D.rt) : tRet te D σ H := h
theorem asg1 (h : te σ H fun x H1 => D.nx (σ.set k (some x)) H1) : tAsg te (gName k) D σ H := h
theorem asgG (h : te σ H fun x H1 => g x σ H1 D.nx) : tAsg te g D σ H := h
theorem gSubE {to ti : TE} {w : V} {q : L2.St → Hp → Prop} {p : Addr} {vs : List V} {j : Nat} (ho : Va to σ H (.ref p)) (hi : Va ti σ H (nV j)) (h : H p = some (.lst vs)) (hj : j < vs.length) (hq : q σ (upd H p (.lst (vs.set j w)))) : gSub to ti rSetL w σ H q :=
  ho _ (hi _ ⟨p, vs, (j : Int), j, rfl, rfl, h, ixN_nat hj, hq⟩)
/-! loops -/
theorem forL {tl : TE} {p : Addr} {vs : List V} (hl0 : Va tl σ H (.ref p)) (hl1 : SqL K H p vs) (Pv : Nat → L2.St → Hp → Prop) (h0 : Pv 0 σ H) (hl : ∀ i σ H, i ≤ vs.length → Pv i σ H → SqL K H p vs)
    (hs : ∀ i x σ H, vs[i]? = some x → Pv i σ H → g x σ H fun σ2 H2 => ts { nx := Pv (i + 1), rt := D.rt, bk := D.nx, ct := Pv (i + 1) } σ2 H2) (hd : ∀ σ H, Pv vs.length σ H → D.nx σ H) : tFor (iList K tl) g ts D σ H :=
  hl0 _ ⟨p, rfl, ⟨_, hl1⟩, for_list (K := K) (a := p) (xs := vs) Pv h0 hl hs hd⟩
theorem seq_forL {tl : TE} {p : Addr} {vs : List V} (hl0 : Va tl σ H (.ref p)) (hl1 : SqL K H p vs) (Pv : Nat → L2.St → Hp → Prop) (h0 : Pv 0 σ H) (hl : ∀ i σ H, i ≤ vs.length → Pv i σ H → SqL K H p vs)
    (hs : ∀ i x σ H, vs[i]? = some x → Pv i σ H → g x σ H fun σ2 H2 => ts { nx := Pv (i + 1), rt := D.rt, bk := us D, ct := Pv (i + 1) } σ2 H2) (hd : ∀ σ H, Pv vs.length σ H → us D σ H) : tSeq (tFor (iList K tl) g ts) us D σ H :=
  forL (D := { D with nx := us D }) hl0 hl1 Pv h0 hl hs hd
/-- over a list that an expression has just made -/
def LoopL (K : PySem.W.Frag) (p : Addr) (g : TG) (ts : TS) (D : Ends) (σ : L2.St) (H : Hp) : Prop := ∃ W : Nat → Nat → L2.St → Hp → Prop, (∃ m, W 0 m σ H) ∧ ∀ i m σ H, W i m σ H →
  ((Itl K p).stop i H ∧ D.nx σ H) ∨ ((Itl K p).go i H ∧ ∃ N : L2.St → Hp → Prop, (∀ σ' H', N σ' H' → ∃ m', m' < m ∧ W (i + 1) m' σ' H') ∧ ∀ x H', (Itl K p).yld i H x H' → g x σ H' fun σ2 H2 => ts { D with nx := N, ct := N, bk := D.nx } σ2 H2)
theorem loopL {p : Addr} {vs : List V} (Pv : Nat → L2.St → Hp → Prop) (h0 : Pv 0 σ H) (hl : ∀ i σ H, i ≤ vs.length → Pv i σ H → SqL K H p vs)
    (hs : ∀ i x σ H, vs[i]? = some x → Pv i σ H → g x σ H fun σ2 H2 => ts { nx := Pv (i + 1), rt := D.rt, bk := D.nx, ct := Pv (i + 1) } σ2 H2) (hd : ∀ σ H, Pv vs.length σ H → D.nx σ H) : LoopL K p g ts D σ H :=
  for_list (K := K) (a := p) (xs := vs) Pv h0 hl hs hd
theorem seq_forE {tl : TE} (h : tl σ H fun x H1 => ∃ p, x = .ref p ∧ (∃ xs, SqL K H1 p xs) ∧ LoopL K p g ts { nx := us D, rt := D.rt, bk := D.bk, ct := D.ct } σ H1) : tSeq (tFor (iList K tl) g ts) us D σ H := h
theorem forE {tl : TE} (h : tl σ H fun x H1 => ∃ p, x = .ref p ∧ (∃ xs, SqL K H1 p xs) ∧ LoopL K p g ts D σ H1) : tFor (iList K tl) g ts D σ H := h
theorem seq_forR {N : Int} {tl : TE} (hv : Va tl σ H (.int N)) (h1 : 0 ≤ N) (h2 : N ≤ 1000) (Pv : Nat → L2.St → Hp → Prop) (h0 : Pv 0 σ H)
    (hs : ∀ i σ H, i < N.toNat → Pv i σ H → g (nV i) σ H fun σ2 H2 => ts { nx := Pv (i + 1), rt := D.rt, bk := us D, ct := Pv (i + 1) } σ2 H2) (hd : ∀ σ H, Pv N.toNat σ H → us D σ H) : tSeq (tFor (iRng1 (tCons tl tNil)) g ts) us D σ H :=
  hv _ ⟨N, rfl, by omega, by omega, for_range (lo := 0) (n := N.toNat) (D := { D with nx := us D }) Pv h0 (fun i σ H hi p => by
    have e : V.int (0 + (i : Int)) = nV i := congrArg V.int (Int.zero_add _)
    rw [e]
    exact hs i σ H hi p) hd⟩
end
/-! calls with an argument that makes something -/
theorem e_1 (h : ta σ H fun x H1 => sp [x] H1 Q E0) : tCall sp [] E0 (tCons ta tNil) σ H Q := h
theorem e_2 (ha : Va ta σ H x) (h : tb σ H fun y H1 => sp [x, y] H1 Q E0) : tCall sp [] E0 (tCons ta (tCons tb tNil)) σ H Q := ha _ h
theorem e_3 (ha : Va ta σ H x) (hb : Va tb σ H y) (h : td σ H fun z H1 => sp [x, y, z] H1 Q E0) : tCall sp [] E0 (tCons ta (tCons tb (tCons td tNil))) σ H Q := ha _ (hb _ h)
theorem e_L1 (h : ta σ H fun x H1 => 1 ≤ sizeLine ∧ ∀ p, H1 p = none → Q (.ref p) (upd H1 p (.lst [x]))) : tLst (tCons ta tNil) σ H Q := h
theorem e_op {r : R2} (h : ta σ H fun x H1 => tb σ H1 fun y H2 => r x y H2 Q) : tOp r ta tb σ H Q := h
theorem e_len (h : ta σ H fun x H1 => ∃ p ys, [x] = [.ref p] ∧ (SqL K H1 p ys ∨ SqT K H1 p ys) ∧ Q (.int ys.length) H1) : tCB (fun xs H Q => ∃ p ys, xs = [.ref p] ∧ (SqL K H p ys ∨ SqT K H p ys) ∧ Q (.int ys.length) H) (tCons ta tNil) σ H Q := h
/-! comprehensions, what they walk -/
theorem lcE {wi : TI} {g : TG} {tt : TT} {ws : List Nat} (h : wi σ H fun J H1 => ∀ D, H1 D = none → ∃ W : Nat → Nat → Hp → Prop, (∃ m, W 0 m (upd H1 D (.lst []))) ∧ ∀ i m H, W i m H →
    (J.stop i H ∧ Q (.ref D) H) ∨ (J.go i H ∧ ∃ Nx : Hp → Prop, (∀ H', Nx H' → ∃ m', m' < m ∧ W (i + 1) m' H') ∧ ∀ x H', J.yld i H x H' → g x (wipe σ ws) H' fun σ2 H2 => wipe σ2 ws = wipe σ ws ∧ tt σ2 H2 fun b H3 =>
      if b = true then te σ2 H3 fun y H4 => ∃ acc, H4 D = some (.lst acc) ∧ acc.length < sizeLine ∧ Nx (upd H4 D (.lst (acc ++ [y]))) else Nx H3)) : tLc wi g tt te ws σ H Q := h
theorem iL {tl : TE} {R : It → Hp → Prop} (h : tl σ H fun x H1 => ∃ p, x = .ref p ∧ (∃ xs, SqL K H1 p xs) ∧ R (Itl K p) H1) : iList K tl σ H R := h
theorem iR1 {R : It → Hp → Prop} (ha : Va ta σ H (.int j)) (h1 : -(2 ^ 62) ≤ j) (h2 : j < 2 ^ 62) (h : R (Itr 0 j.toNat) H) : iRng1 (tCons ta tNil) σ H R := ha _ ⟨j, rfl, h1, h2, h⟩
theorem iR2 {R : It → Hp → Prop} (ha : Va ta σ H (.int i)) (hb : Va tb σ H (.int j)) (h1 : -(2 ^ 62) ≤ i ∧ i < 2 ^ 62 ∧ -(2 ^ 62) ≤ j ∧ j < 2 ^ 62) (h : R (Itr i (j - i).toNat) H) : iRng2 (tCons ta (tCons tb tNil)) σ H R := ha _ (hb _ ⟨i, j, rfl, h1, h⟩)
end
end Sw
end
section
set_option maxHeartbeats 4000000
namespace Sw
open PySem PySem.Spec PyProof.Rows L2

/-! ### tests whose answer is known; lists -/
theorem ifT {k : Bool} {A B : Prop} (hc : k = true) (h : A) : if k = true then A else B := by
  rw [if_pos hc]
  exact h
theorem ifF {k : Bool} {A B : Prop} (hc : k = false) (h : B) : if k = true then A else B := by
  rw [hc, if_neg Bool.false_ne_true]
  exact h
theorem nd {p : Prop} [Decidable p] (h : ¬ p) : (!decide p) = true := by
  rw [decide_eq_false h]
  rfl
theorem ndF {p : Prop} [Decidable p] (h : p) : (!decide p) = false := by
  rw [decide_eq_true h]
  rfl
theorem few {n : Nat} (h : n ≤ 100000) : n < sizeLine := Nat.lt_of_le_of_lt h (by decide)
theorem few' {n : Nat} (h : n ≤ 100000) : n ≤ sizeLine := Nat.le_of_lt (few h)
theorem take_more {A : Type} {l : List A} {i : Nat} {x : A} (h : l[i]? = some x) : l.take (i + 1) = l.take i ++ [x] := by
  rw [List.take_add_one, h]
  rfl
/-- all but p stands -/
def ButF (p : Addr) (H H' : Hp) : Prop := ∀ a o, a ≠ p → H a = some o → H' a = some o
theorem sqL_but {K : PySem.W.Frag} {H H' : Hp} {a p : Addr} {xs : List V} (e : ButF p H H') (ha : a ≠ p) (h : SqL K H a xs) : SqL K H' a xs := by
  rcases h with (h | ⟨o, h⟩) | h
  · exact .inl (.inl (e _ _ ha h))
  · exact .inl (.inr ⟨o, e _ _ ha h⟩)
  · exact .inr h
theorem ButF.same {H H' H0 : Hp} {p : Addr} (e : ButF p H H') (s : Same H0 H) (h : H0 p = none) : Same H0 H' := fun b o q => e b o (ne_of_none q h) (s b o q)

section
variable {K : PySem.W.Frag}
/-! ### comprehensions -/
/-- over a list: out i is what the first i items give -/
theorem lc_any {a : Addr} {xs : List V} {g : TG} {tt : TT} {te : TE} {ws : List Nat} {σ : L2.St} {H1 : Hp} {D : Addr} {Qd : Hp → Prop} (hl : SqL K H1 a xs) (hD : H1 D = none) {A : Type} (Rel : Hp → V → A → Prop)
    (mono : ∀ H H' v z, Same H H' → Rel H v z → Rel H' v z) (st : ∀ H v z l l', H D = some (.lst l) → Rel H v z → Rel (upd H D (.lst l')) v z) (out : Nat → List A) (h0 : out 0 = []) (hx : xs.length ≤ 100000) (hf : ∀ i, (out i).length ≤ i)
    (hs : ∀ i x H', xs[i]? = some x → Same H1 H' → ∀ (Yc : V → Hp → Prop) (Nc : Hp → Prop), (∀ v z H2, out (i + 1) = out i ++ [z] → Rel H2 v z → Same H' H2 → Yc v H2) → (∀ H2, out (i + 1) = out i → Same H' H2 → Nc H2) →
      g x (wipe σ ws) H' fun σ2 H2 => wipe σ2 ws = wipe σ ws ∧ tt σ2 H2 fun b H3 => if b = true then te σ2 H3 Yc else Nc H3)
    (hd : ∀ H' vs, Same H1 H' → H' D = some (.lst vs) → Pt (Rel H') vs (out xs.length) → Qd H') :
    ∃ W : Nat → Nat → Hp → Prop, (∃ m, W 0 m (upd H1 D (.lst []))) ∧ ∀ i m H, W i m H →
      ((Itl K a).stop i H ∧ Qd H) ∨ ((Itl K a).go i H ∧ ∃ Nx : Hp → Prop, (∀ H', Nx H' → ∃ m', m' < m ∧ W (i + 1) m' H') ∧ ∀ x H', (Itl K a).yld i H x H' → g x (wipe σ ws) H' fun σ2 H2 => wipe σ2 ws = wipe σ ws ∧ tt σ2 H2 fun b H3 =>
        if b = true then te σ2 H3 fun y H4 => ∃ acc, H4 D = some (.lst acc) ∧ acc.length < sizeLine ∧ Nx (upd H4 D (.lst (acc ++ [y]))) else Nx H3) := by
  refine lc_list (K := K) (a := a) (xs := xs) (fun i H' => i ≤ xs.length ∧ Same H1 H' ∧ ∃ vs, H' D = some (.lst vs) ∧ Pt (Rel H') vs (out i)) ?_ ?_ ?_ ?_
  · exact ⟨Nat.zero_le _, same_upd hD, [], upd_same, by rw [h0]; exact Pt.nil⟩
  · exact fun i H' _ h => h.2.1.seq hl
  · rintro i x H' hi ⟨hle, e, vs, h1, h2⟩
    have hlt := (List.getElem?_eq_some_iff.mp hi).1
    refine hs i x H' hi e _ _ (fun v z H2 eo r s => ?_) (fun H2 eo s => ?_)
    · have hl1 := h2.1
      have hf1 := hf i
      refine ⟨vs, s _ _ h1, few (by omega), hlt, same_old (e.trans s) hD, vs ++ [v], upd_same, ?_⟩
      rw [eo]
      exact (h2.mono fun w y q => st _ _ _ _ _ (s _ _ h1) (mono _ _ _ _ s q)).snoc (st _ _ _ _ _ (s _ _ h1) r)
    · exact ⟨hlt, e.trans s, vs, s _ _ h1, by rw [eo]; exact h2.mono fun w y q => mono _ _ _ _ s q⟩
  · rintro H' ⟨_, e, vs, h1, h2⟩
    exact hd H' vs e h1 h2
/-- over a range -/
theorem lc_rng {lo : Int} {n : Nat} {g : TG} {tt : TT} {te : TE} {ws : List Nat} {σ : L2.St} {H1 : Hp} {D : Addr} {Qd : Hp → Prop} (hD : H1 D = none) {A : Type} (Rel : Hp → V → A → Prop)
    (mono : ∀ H H' v z, Same H H' → Rel H v z → Rel H' v z) (st : ∀ H v z l l', H D = some (.lst l) → Rel H v z → Rel (upd H D (.lst l')) v z) (out : Nat → List A) (h0 : out 0 = []) (hx : n ≤ 100000) (hf : ∀ i, (out i).length ≤ i)
    (hs : ∀ i H', i < n → Same H1 H' → ∀ (Yc : V → Hp → Prop) (Nc : Hp → Prop), (∀ v z H2, out (i + 1) = out i ++ [z] → Rel H2 v z → Same H' H2 → Yc v H2) → (∀ H2, out (i + 1) = out i → Same H' H2 → Nc H2) →
      g (.int (lo + i)) (wipe σ ws) H' fun σ2 H2 => wipe σ2 ws = wipe σ ws ∧ tt σ2 H2 fun b H3 => if b = true then te σ2 H3 Yc else Nc H3)
    (hd : ∀ H' vs, Same H1 H' → H' D = some (.lst vs) → Pt (Rel H') vs (out n) → Qd H') :
    ∃ W : Nat → Nat → Hp → Prop, (∃ m, W 0 m (upd H1 D (.lst []))) ∧ ∀ i m H, W i m H →
      ((Itr lo n).stop i H ∧ Qd H) ∨ ((Itr lo n).go i H ∧ ∃ Nx : Hp → Prop, (∀ H', Nx H' → ∃ m', m' < m ∧ W (i + 1) m' H') ∧ ∀ x H', (Itr lo n).yld i H x H' → g x (wipe σ ws) H' fun σ2 H2 => wipe σ2 ws = wipe σ ws ∧ tt σ2 H2 fun b H3 =>
        if b = true then te σ2 H3 fun y H4 => ∃ acc, H4 D = some (.lst acc) ∧ acc.length < sizeLine ∧ Nx (upd H4 D (.lst (acc ++ [y]))) else Nx H3) := by
  refine lc_range (lo := lo) (n := n) (fun i H' => i ≤ n ∧ Same H1 H' ∧ ∃ vs, H' D = some (.lst vs) ∧ Pt (Rel H') vs (out i)) ?_ ?_ ?_
  · exact ⟨Nat.zero_le _, same_upd hD, [], upd_same, by rw [h0]; exact Pt.nil⟩
  · rintro i H' hlt ⟨hle, e, vs, h1, h2⟩
    refine hs i H' hlt e _ _ (fun v z H2 eo r s => ?_) (fun H2 eo s => ?_)
    · have hl1 := h2.1
      have hf1 := hf i
      refine ⟨vs, s _ _ h1, few (by omega), hlt, same_old (e.trans s) hD, vs ++ [v], upd_same, ?_⟩
      rw [eo]
      exact (h2.mono fun w y q => st _ _ _ _ _ (s _ _ h1) (mono _ _ _ _ s q)).snoc (st _ _ _ _ _ (s _ _ h1) r)
    · exact ⟨hlt, e.trans s, vs, s _ _ h1, by rw [eo]; exact h2.mono fun w y q => mono _ _ _ _ s q⟩
  · rintro H' ⟨_, e, vs, h1, h2⟩
    exact hd H' vs e h1 h2
/-- whole numbers -/
def IsN (_ : Hp) (v : V) (n : Nat) : Prop := v = nV n
theorem pt_nV {H : Hp} : ∀ {vs : List V} {ns : List Nat}, Pt (IsN H) vs ns → vs = ns.map nV := fun {vs ns} h => by
  refine List.ext_getElem? fun i => ?_
  rw [List.getElem?_map]
  cases e : ns[i]? with
  | none => rw [List.getElem?_eq_none (by rw [h.1]; exact List.getElem?_eq_none_iff.mp e)]; rfl
  | some n =>
    obtain ⟨v, hv, r⟩ := h.get e
    have r' : v = nV n := r
    rw [hv, r']
    rfl
theorem nV_get {ns : List Nat} {i : Nat} {v : V} (h : (ns.map nV)[i]? = some v) : ∃ n, ns[i]? = some n ∧ v = nV n := by
  rw [List.getElem?_map] at h
  cases e : ns[i]? with
  | none =>
    rw [e] at h
    cases h
  | some n =>
    rw [e] at h
    exact ⟨n, rfl, (Option.some.inj h).symm⟩
/-- [x for x in ns if p(x)] -/
theorem lc_filt {a : Addr} {ns : List Nat} {p : Nat → Bool} {g : TG} {tt : TT} {te : TE} {ws : List Nat} {σ : L2.St} {H1 : Hp} {D : Addr} {Qd : Hp → Prop} (hl : SqL K H1 a (ns.map nV)) (hD : H1 D = none) (hx : ns.length ≤ 100000)
    (hs : ∀ x H', x ∈ ns → Same H1 H' → ∀ (Yc : V → Hp → Prop) (Nc : Hp → Prop), (p x = true → ∀ H2, Same H' H2 → Yc (nV x) H2) → (p x = false → ∀ H2, Same H' H2 → Nc H2) →
      g (nV x) (wipe σ ws) H' fun σ2 H2 => wipe σ2 ws = wipe σ ws ∧ tt σ2 H2 fun b H3 => if b = true then te σ2 H3 Yc else Nc H3)
    (hd : ∀ H', Same H1 H' → H' D = some (.lst ((ns.filter p).map nV)) → Qd H') :
    ∃ W : Nat → Nat → Hp → Prop, (∃ m, W 0 m (upd H1 D (.lst []))) ∧ ∀ i m H, W i m H →
      ((Itl K a).stop i H ∧ Qd H) ∨ ((Itl K a).go i H ∧ ∃ Nx : Hp → Prop, (∀ H', Nx H' → ∃ m', m' < m ∧ W (i + 1) m' H') ∧ ∀ x H', (Itl K a).yld i H x H' → g x (wipe σ ws) H' fun σ2 H2 => wipe σ2 ws = wipe σ ws ∧ tt σ2 H2 fun b H3 =>
        if b = true then te σ2 H3 fun y H4 => ∃ acc, H4 D = some (.lst acc) ∧ acc.length < sizeLine ∧ Nx (upd H4 D (.lst (acc ++ [y]))) else Nx H3) := by
  refine lc_any hl hD IsN (fun _ _ _ _ _ q => q) (fun _ _ _ _ _ _ q => q) (fun i => (ns.take i).filter p) rfl (by rw [List.length_map]; exact hx) (fun i => Nat.le_trans (List.length_filter_le _ _) (by rw [List.length_take]; exact Nat.min_le_left _ _)) ?_ ?_
  · intro i x H' hi e Yc Nc hY hN
    obtain ⟨n, hn, rfl⟩ := nV_get hi
    refine hs n H' (List.mem_of_getElem? hn) e Yc Nc (fun hp H2 s => hY _ n H2 ?_ rfl s) (fun hp H2 s => hN H2 ?_ s)
    · show (ns.take (i + 1)).filter p = (ns.take i).filter p ++ [n]
      rw [take_more hn, List.filter_append, List.filter_cons_of_pos hp]
      rfl
    · show (ns.take (i + 1)).filter p = (ns.take i).filter p
      rw [take_more hn, List.filter_append, List.filter_cons_of_neg (by rw [hp]; exact Bool.false_ne_true), List.filter_nil, List.append_nil]
  · intro H' vs e h1 h2
    have := pt_nV h2
    rw [List.length_map, List.take_length] at this
    rw [this] at h1
    exact hd H' e h1
/-- [x for x in range(1, n + 1) if p(x)] -/
theorem lc_nums {n : Nat} {p : Nat → Bool} {g : TG} {tt : TT} {te : TE} {ws : List Nat} {σ : L2.St} {H1 : Hp} {D : Addr} {Qd : Hp → Prop} (hD : H1 D = none) (hx : n ≤ 100000)
    (hs : ∀ x H', 1 ≤ x → x ≤ n → Same H1 H' → ∀ (Yc : V → Hp → Prop) (Nc : Hp → Prop), (p x = true → ∀ H2, Same H' H2 → Yc (nV x) H2) → (p x = false → ∀ H2, Same H' H2 → Nc H2) →
      g (nV x) (wipe σ ws) H' fun σ2 H2 => wipe σ2 ws = wipe σ ws ∧ tt σ2 H2 fun b H3 => if b = true then te σ2 H3 Yc else Nc H3)
    (hd : ∀ H', Same H1 H' → H' D = some (.lst (((Sv.nums n).filter p).map nV)) → Qd H') :
    ∃ W : Nat → Nat → Hp → Prop, (∃ m, W 0 m (upd H1 D (.lst []))) ∧ ∀ i m H, W i m H →
      ((Itr 1 n).stop i H ∧ Qd H) ∨ ((Itr 1 n).go i H ∧ ∃ Nx : Hp → Prop, (∀ H', Nx H' → ∃ m', m' < m ∧ W (i + 1) m' H') ∧ ∀ x H', (Itr 1 n).yld i H x H' → g x (wipe σ ws) H' fun σ2 H2 => wipe σ2 ws = wipe σ ws ∧ tt σ2 H2 fun b H3 =>
        if b = true then te σ2 H3 fun y H4 => ∃ acc, H4 D = some (.lst acc) ∧ acc.length < sizeLine ∧ Nx (upd H4 D (.lst (acc ++ [y]))) else Nx H3) := by
  have nums_more : ∀ i, Sv.nums (i + 1) = Sv.nums i ++ [i + 1] := fun i => by
    unfold Sv.nums
    rw [List.range_succ, List.map_append]
    rfl
  refine lc_rng hD IsN (fun _ _ _ _ _ q => q) (fun _ _ _ _ _ _ q => q) (fun i => (Sv.nums i).filter p) rfl hx (fun i => Nat.le_trans (List.length_filter_le _ _) (by unfold Sv.nums; rw [List.length_map, List.length_range]; exact Nat.le_refl _)) ?_ ?_
  · intro i H' hi e Yc Nc hY hN
    have ev : V.int (1 + (i : Int)) = nV (i + 1) := congrArg V.int (by omega)
    rw [ev]
    refine hs (i + 1) H' (by omega) (by omega) e Yc Nc (fun hp H2 s => hY _ (i + 1) H2 ?_ rfl s) (fun hp H2 s => hN H2 ?_ s)
    · show (Sv.nums (i + 1)).filter p = (Sv.nums i).filter p ++ [i + 1]
      rw [nums_more, List.filter_append, List.filter_cons_of_pos hp]
      rfl
    · show (Sv.nums (i + 1)).filter p = (Sv.nums i).filter p
      rw [nums_more, List.filter_append, List.filter_cons_of_neg (by rw [hp]; exact Bool.false_ne_true), List.filter_nil, List.append_nil]
  · intro H' vs e h1 h2
    rw [pt_nV h2] at h1
    exact hd H' e h1
end

section
variable {P : Program} {w : World} {K : PySem.W.Frag} {mg : Str → Option Value} {base : Heap} {c : Cad} {f : Addr} {fd : FuncData}
/-! ### the ranges of arguments -/
def spB1 (g : Int → Bool) : Sp := fun vs H Q _ => ∃ z, vs = [.int z] ∧ Q (.bl (g z)) H
theorem spB1_len {g : Int → Bool} : ∀ vs H Q E, spB1 g vs H Q E → vs.length = 1 := fun vs H Q E h => by
  obtain ⟨z, rfl, _⟩ := h
  rfl
theorem ok_is_slot (F : Fun K "is_slot" "is_slot" s_is_slot f fd) (T : Txt K mg c) : FnOk P w K mg base CX0 1 f fd ["number"] (spB1 Sv.slotOk) := by
  refine F.ok sc_is_slot spB1_len (fun cdv A outer s H vs Q E hr h => ⟨_, (pss_one (ps_ret (pe_chain op_le op_lt pe_i (pv 0) (pe_gi rfl T.gSLOT_COUNT)))), ?_⟩)
  obtain ⟨z, rfl, q⟩ := h
  refine ⟨_, rfl, _, _, rfl, rfl, _, rfl, ite2 (fun e => ?_) (fun e => ?_)⟩
  · refine ⟨_, _, rfl, rfl, ?_⟩
    unfold Sv.slotOk at q
    rw [e, Bool.true_and] at q
    exact q
  · unfold Sv.slotOk at q
    rw [Bool.eq_false_iff.mpr e, Bool.false_and] at q
    exact q
theorem ok_is_field_count (F : Fun K "is_field_count" "is_field_count" s_is_field_count f fd) (T : Txt K mg c) : FnOk P w K mg base CX0 1 f fd ["number"] (spB1 Sv.countOk) := by
  refine F.ok sc_is_field_count spB1_len (fun cdv A outer s H vs Q E hr h => ⟨_, (pss_one (ps_ret (pe_chain op_le op_le pe_i (pv 0) (pe_gi rfl T.gMOST_FIELDS)))), ?_⟩)
  obtain ⟨z, rfl, q⟩ := h
  refine ⟨_, rfl, _, _, rfl, rfl, _, rfl, ite2 (fun e => ?_) (fun e => ?_)⟩
  · refine ⟨_, _, rfl, rfl, ?_⟩
    unfold Sv.countOk at q
    rw [e, Bool.true_and] at q
    exact q
  · unfold Sv.countOk at q
    rw [Bool.eq_false_iff.mpr e, Bool.false_and] at q
    exact q
theorem ok_is_field (F : Fun K "is_field" "is_field" s_is_field f fd) (T : Txt K mg c) : FnOk P w K mg base CX0 1 f fd ["number"] (spB1 Sv.fieldOk) := by
  refine F.ok sc_is_field spB1_len (fun cdv A outer s H vs Q E hr h => ⟨_, (pss_one (ps_ret (pe_chain op_le op_lt pe_i (pv 0) (pe_gi rfl T.gMOST_FIELDS)))), ?_⟩)
  obtain ⟨z, rfl, q⟩ := h
  refine ⟨_, rfl, _, _, rfl, rfl, _, rfl, ite2 (fun e => ?_) (fun e => ?_)⟩
  · refine ⟨_, _, rfl, rfl, ?_⟩
    unfold Sv.fieldOk at q
    rw [e, Bool.true_and] at q
    exact q
  · unfold Sv.fieldOk at q
    rw [Bool.eq_false_iff.mpr e, Bool.false_and] at q
    exact q
theorem ok_is_foreign (F : Fun K "is_foreign" "is_foreign" s_is_foreign f fd) (T : Txt K mg c) : FnOk P w K mg base CX0 1 f fd ["number"] (spB1 Sv.foreignOk) := by
  refine F.ok sc_is_foreign spB1_len (fun cdv A outer s H vs Q E hr h => ⟨_, (pss_one (ps_ret (pe_chain op_le op_le pe_i (pv 0) (pe_gi rfl T.gMOST_FOREIGN)))), ?_⟩)
  obtain ⟨z, rfl, q⟩ := h
  refine ⟨_, rfl, _, _, rfl, rfl, _, rfl, ite2 (fun e => ?_) (fun e => ?_)⟩
  · refine ⟨_, _, rfl, rfl, ?_⟩
    unfold Sv.foreignOk at q
    rw [e, Bool.true_and] at q
    exact q
  · unfold Sv.foreignOk at q
    rw [Bool.eq_false_iff.mpr e, Bool.false_and] at q
    exact q
theorem ok_is_kind (F : Fun K "is_kind" "is_kind" s_is_kind f fd) (T : Txt K mg c) : FnOk P w K mg base CX0 1 f fd ["number"] (spB1 Sv.kindOk) := by
  refine F.ok sc_is_kind spB1_len (fun cdv A outer s H vs Q E hr h => ⟨_, (pss_one (ps_ret (pe_or (pe_cmpR op_eq (pv 0) (pe_gi rfl T.gOBJECT) (nomark _)) (pe_one (pe_cmpR op_eq (pv 0) (pe_gi rfl T.gFOREIGN) (nomark _)))))), ?_⟩)
  obtain ⟨z, rfl, q⟩ := h
  unfold Sv.kindOk at q
  refine ⟨_, rfl, rfl, _, rfl, ite2 (fun e => ?_) (fun e => ?_)⟩
  · have e' : z = 1 := V.int.inj (of_decide_eq_true e)
    rw [decide_eq_true e', Bool.true_or] at q
    exact q
  · have e' : ¬ z = 1 := fun q => e (decide_eq_true (congrArg V.int q))
    rw [decide_eq_false e', Bool.false_or] at q
    refine ⟨_, rfl, rfl, ?_⟩
    rw [dec_int, Bool.beq_eq_decide_eq]
    exact q

/-! ### what leads to what -/
theorem ok40 {m : Sv.M} (W : Sv.Wf m) {x : Vl} (o : Sv.okV m x) : Sv.numN x ≤ 40 := by
  cases x with
  | nothing => exact Nat.zero_le _
  | object n =>
    have := W.lv n o
    have := W.most
    show n ≤ 40
    omega
  | foreign n =>
    have := W.imp n o
    show n ≤ 40
    omega
def spFields (K : PySem.W.Frag) (c : Cad) : Sp := fun vs H Q _ => ∃ n L m v x, vs = [.ref (L 1), v] ∧ SiteAt K c n L H m ∧ VAt K H v x ∧ Sv.numN x ≤ 40 ∧
  ∀ H' p lv, Same H H' → (Foot n L p ∨ H p = none) → H' p = some (.lst lv) → VsAt K H' lv (Sv.fieldsM m.rows x) → Q (.ref p) H'
theorem ok_fields_of (F : Fun K "fields_of" "fields_of" s_fields_of f fd) (T : Txt K mg c) : FnOk P w K mg base CX0 1 f fd ["heap", "value"] (spFields K c) := by
  refine F.ok sc_fields_of (fun vs H Q E h => ?_) (fun cdv A outer s H vs Q E hr h => ⟨_, (pss_cons (ps_if (pt_cmpR op_eq (pe_ix ix_tup (pv 1) pe_i (fun _ _ => rfl)) (pe_gi rfl T.gOBJECT) (nomark _)) (pss_one (ps_ret (pe_ix ix_list (pe_fld (pv 0) rfl) (pe_ix ix_tup (pv 1) pe_i (fun _ _ => rfl)) (fun _ _ => rfl)))) pss_nil) (pss_one (ps_ret (pe_lst pa_nil)))), ?_⟩)
  · obtain ⟨n, L, m, v, x, rfl, _⟩ := h
    rfl
  · obtain ⟨n, L, m, v, x, rfl, S, hv, hx, q⟩ := h
    refine ⟨_, rfl, rd_kind hv ⟨rfl, _, rfl, ite2 (fun e => ?_) (fun e => ?_)⟩⟩
    · have e' : ((Sv.kindN x : Nat) : Int) = 1 := V.int.inj (of_decide_eq_true e)
      obtain ⟨vs, h1, h2⟩ := S.row (k := Sv.numN x) (by omega)
      refine s_ret (v_ixN (v_rows T S (v_var rfl)) (v_num (v_var rfl) hv) (SqL.of S.c6) (tab_get (by omega))) ?_
      refine q H _ vs (Same.refl H) (.inl ⟨Sv.numN x + 12, by have := S.many; omega, rfl⟩) h1 ?_
      cases x with
      | nothing => exact absurd e' (by decide)
      | foreign k => exact absurd e' (by show ¬ ((2 : Nat) : Int) = 1; decide)
      | object k => exact h2.mono off_sub
    · refine ⟨few' (Nat.zero_le _), fun p np => q _ p [] (same_upd np) (.inr np) upd_same ?_⟩
      cases x with
      | nothing => exact Pt.nil
      | foreign k => exact Pt.nil
      | object k => exact absurd (decide_eq_true rfl) e
def spAdd (K : PySem.W.Frag) : Sp := fun vs H Q _ => ∃ p b fv bv f0 xs, vs = [.ref p, .ref b] ∧ H p = some (.lst fv) ∧ VsAt K H fv f0 ∧ H b = some (.lst bv) ∧ VsAt K H bv xs ∧ b ≠ p ∧ fv.length + bv.length ≤ 10000 ∧
  ∀ H' fv', H' p = some (.lst fv') → VsAt K H' fv' (Sv.addNew f0 xs) → ButF p H H' → Q .non H'
theorem addNew_more {f0 xs : List Vl} {i : Nat} {x : Vl} (h : xs[i]? = some x) : Sv.addNew f0 (xs.take (i + 1)) = Sv.add1 (Sv.addNew f0 (xs.take i)) x := by
  rw [take_more h]
  unfold Sv.addNew
  rw [List.foldl_append]
  rfl
theorem ok_add_new (F : Fun K "add_new" "add_new" s_add_new f fd) (T : Txt K mg c) : FnOk P w K mg base CX0 1 f fd ["found", "values"] (spAdd K) := by
  refine F.ok sc_add_new (fun vs H Q E h => ?_) (fun cdv A outer s H vs Q E hr h => ⟨_, (pss_one (ps_for PassesOwn.never rfl (pi_list (pv 1)) (pg_name (i := 2) sc_add_new.nd rfl (.inl rfl)) (pss_one (ps_if (PW.pt (pw_and (pt_cmpR (op_neD (un64 hr)) (pv 2) (pe_gr rfl T.gNOTHING) (nomark _)) (pw_and1 (pt_cmpR (op_notInD (un65 hr)) (pv 2) (pv 0) (by rfl))))) (pss_one (ps_expr (pe_bm PySem.F.plainAttrs_list PySem.F.slot_list_append PySem.F.type_list_append mt_append (pv 0) (pa_cons (pv 2) pa_nil)))) pss_nil)))), ?_⟩)
  · obtain ⟨p, b, fv, bv, f0, xs, rfl, _⟩ := h
    rfl
  · obtain ⟨p, b, fv, bv, f0, xs, rfl, h1, h2, h3, h4, ne, hl, q⟩ := h
    have tu : ∀ H', ButF p H H' → ∀ d zs, H d = some (.tup zs) → H' d = some (.tup zs) := fun H' e => tups_but h1 e
    refine ⟨_, rfl, b, rfl, ⟨_, SqL.of h3⟩, for_list (K := K) (a := b) (xs := bv) (fun i σ H' => ∃ v fv', σ = [some (.ref p), some (.ref b), v] ∧ H' p = some (.lst fv') ∧ VsAt K H' fv' (Sv.addNew f0 (xs.take i)) ∧ ButF p H H' ∧ i ≤ bv.length)
      ⟨none, fv, rfl, h1, h2, fun _ _ _ z => z, Nat.zero_le _⟩ (fun i σ H' _ ⟨_, _, _, _, _, e, _⟩ => SqL.of (e _ _ ne h3)) ?_ ?_⟩
    · rintro i y σ H' hi ⟨v, fv', rfl, g1, g2, g3, g4⟩
      obtain ⟨x, hx, hy⟩ := h4.got hi
      have hy' : VAt K H' y x := hy.tups (tu H' g3)
      have hlt := (List.getElem?_eq_some_iff.mp hi).1
      refine ⟨_, rfl, rd_ne hy' (nothing_at T H') ⟨_, rfl, ?_⟩⟩
      by_cases e1 : x = .nothing
      · refine ifF (ndF e1) (ifF rfl ⟨_, fv', rfl, g1, ?_, g3, hlt⟩)
        rw [addNew_more hx]
        unfold Sv.add1
        rw [if_neg (fun z => z.1 e1)]
        exact g2
      · refine ifT (nd e1) ⟨_, rfl, _, rfl, rd_notIn hy' (SqL.of g1) g2 ⟨_, rfl, ?_⟩⟩
        by_cases e2 : x ∈ Sv.addNew f0 (xs.take i)
        · refine ifF (ndF e2) ⟨_, fv', rfl, g1, ?_, g3, hlt⟩
          rw [addNew_more hx]
          unfold Sv.add1
          rw [if_neg (fun z => z.2 e2)]
          exact g2
        · have l1 := g2.1
          have l2 := Sv.addNew_len (vs := xs.take i) (f := f0)
          have l3 := h2.1
          have l4 := h4.1
          rw [List.length_take] at l2
          refine ifT (nd e2) ⟨_, rfl, .inl ⟨rfl, _, SqL.of g1⟩, _, rfl, p, fv', y, rfl, rfl, g1, few (by omega), ⟨_, fv' ++ [y], rfl, upd_same, ?_, fun a o ha ho => ?_, hlt⟩⟩
          · rw [addNew_more hx]
            unfold Sv.add1
            rw [if_pos ⟨e1, e2⟩]
            exact Pt.snoc (g2.tups (tups_upd g1)) (hy'.tups (tups_upd g1))
          · rw [upd_ne ha]
            exact g3 a o ha ho
    · rintro σ H' ⟨v, fv', rfl, g1, g2, g3, _⟩
      refine q H' fv' g1 ?_ g3
      rw [h4.1, List.take_length] at g2
      exact g2
def spReached (K : PySem.W.Frag) (c : Cad) : Sp := fun vs H Q _ => ∃ n L m b bv seeds, vs = [.ref (L 1), .ref b] ∧ SiteAt K c n L H m ∧ Sv.Wf m ∧ H b = some (.lst bv) ∧ VsAt K H bv seeds ∧ seeds.length ≤ 1000 ∧ (∀ v ∈ seeds, Sv.okV m v) ∧
  ∀ H' p fv, Same H H' → H p = none → H' p = some (.lst fv) → VsAt K H' fv (Sv.reached m.rows seeds) → Q (.ref p) H'
theorem reached_more {rows : Nat → List Vl} {seeds : List Vl} {i : Nat} : (List.range (i + 1)).foldl (Sv.stepR rows) (Sv.addNew [] seeds) = Sv.stepR rows ((List.range i).foldl (Sv.stepR rows) (Sv.addNew [] seeds)) i := by
  rw [List.range_succ, List.foldl_append]
  rfl
theorem ok_reached (F : Fun K "reached" "reached" s_reached f fd) (T : Txt K mg c) (D_add_new : Def P w K mg base "add_new" ["found", "values"] 1 (spAdd K)) (D_fields_of : Def P w K mg base "fields_of" ["heap", "value"] 1 (spFields K c)) :
    FnOk P w K mg base CX0 2 f fd ["heap", "seeds"] (spReached K c) := by
  refine F.ok sc_reached (fun vs H Q E h => ?_) (fun cdv A outer s H vs Q E hr h => ⟨_, (pss_cons (ps_set (i := 2) sc_reached.nd rfl (.inl rfl) (pe_lst pa_nil)) (pss_cons (ps_expr (pe_cd D_add_new (hr.mono (by decide)) rfl (pa_cons (pv 2) (pa_cons (pv 1) pa_nil)))) (pss_cons (ps_for PassesOwn.never rfl (pi_range1 (by rfl) T.range (pa_cons (pe_gi rfl T.gMOST_VALUES) pa_nil)) (pg_name (i := 3) sc_reached.nd rfl (.inl rfl)) (pss_one (ps_if (pt_cmpR op_lt (pv 3) (pe_callB call_len_seq (by rfl) T.len PySem.boot_len (pa_cons (pv 2) pa_nil)) (nomark _)) (pss_one (ps_expr (pe_cd D_add_new (hr.mono (by decide)) rfl (pa_cons (pv 2) (pa_cons (pe_cd D_fields_of (hr.mono (by decide)) rfl (pa_cons (pv 0) (pa_cons (pe_ix ix_list (pv 2) (pv 3) (fun _ _ => rfl)) pa_nil))) pa_nil))))) pss_nil))) (pss_one (ps_ret (pv 2)))))), ?_⟩)
  · obtain ⟨n, L, m, b, bv, seeds, rfl, _⟩ := h
    rfl
  · obtain ⟨n, L, m, b, bv, seeds, rfl, S, W, hb, hbv, hlen, hok, q⟩ := h
    refine seq_set (n_nil fun p np => ?_)
    have s0 : Same H (upd H p (.lst [])) := same_upd np
    have nbp : b ≠ p := ne_of_none hb np
    have lb := hbv.1
    have rl := Sv.reached_len W.four seeds
    refine seq_drop (c_2 (v_var rfl) (v_var rfl) ⟨p, b, [], bv, [], seeds, rfl, upd_same, Pt.nil, s0 _ _ hb, hbv.mono s0, nbp, by show 0 + bv.length ≤ 10000; omega, fun H1 fv1 h1 h2 h3 => ?_⟩)
    have s1 : Same H H1 := h3.same s0 np
    refine seq_forR (N := 60) v_c (by decide) (by decide) (fun i σ H' => ∃ y fv, σ = [some (.ref (L 1)), some (.ref b), some (.ref p), y] ∧ Same H H' ∧ H' p = some (.lst fv) ∧ VsAt K H' fv ((List.range i).foldl (Sv.stepR m.rows) (Sv.addNew [] seeds)))
      ⟨none, fv1, rfl, s1, h1, h2⟩ ?_ ?_
    · rintro i σ H' hi ⟨y, fv, rfl, e, g1, g2⟩
      have sound := (Sv.walkedN (rows := m.rows) (seeds := seeds) i).sound
      have rl1 := rl i
      have gl := g2.1
      generalize eF : (List.range i).foldl (Sv.stepR m.rows) (Sv.addNew [] seeds) = F0 at g2 sound rl1 gl
      refine gN (s_if (a_test (v_lt (v_var rfl) (v_len (v_var rfl) (SqL.of g1)))) (fun hlt => ?_) (fun hlt => ?_))
      · have hlt' : i < fv.length := by
          have := of_decide_eq_true hlt
          omega
        obtain ⟨x, hx, hv⟩ := g2.got (List.getElem?_eq_getElem hlt')
        have ox : Sv.okV m x := W.leads hok (sound x (List.mem_of_getElem? hx))
        refine drop1 (e_2 (v_var rfl) (c_2 (v_var rfl) (v_ixN (v_var rfl) (v_var rfl) (SqL.of g1) (List.getElem?_eq_getElem hlt')) ⟨n, L, m, _, x, rfl, S.same e, hv, ok40 W ox, fun H2 p2 lv s2 ft hp2 hlv => ?_⟩))
        have np2 : p2 ≠ p := by
          rcases ft with ft | ft
          · exact fun z => S.new np (by rw [← z]; exact ft)
          · exact fun z => by
              rw [z, g1] at ft
              cases ft
        have fl : (Sv.fieldsM m.rows x).length ≤ 4 := by
          cases x with
          | object k => exact W.four k
          | nothing => exact Nat.zero_le _
          | foreign k => exact Nat.zero_le _
        have hlv1 := hlv.1
        refine ⟨p, p2, fv, lv, F0, _, rfl, s2 _ _ g1, g2.mono s2, hp2, hlv, np2, by omega, fun H3 fv3 k1 k2 k3 => ?_⟩
        refine ⟨_, fv3, rfl, k3.same (e.trans s2) np, k1, ?_⟩
        rw [reached_more, eF]
        unfold Sv.stepR
        rw [hx]
        exact k2
      · refine ⟨_, fv, rfl, e, g1, ?_⟩
        have hlt' : ¬ i < fv.length := by
          have := of_decide_eq_false hlt
          omega
        rw [reached_more, eF]
        unfold Sv.stepR
        rw [List.getElem?_eq_none (by omega)]
        exact g2
    · rintro σ H' ⟨y, fv, rfl, e, g1, g2⟩
      exact s_ret (v_var rfl) (q H' p fv e np g1 g2)
def spLed (K : PySem.W.Frag) (c : Cad) : Sp := fun vs H Q _ => ∃ n L m k, vs = [.ref (L 1), nV k] ∧ SiteAt K c n L H m ∧ Sv.Wf m ∧ (k = 0 ∨ 0 < m.es k) ∧
  ∀ H' p fv, Same H H' → H p = none → H' p = some (.lst fv) → VsAt K H' fv (Sv.ledBy m k) → Q (.ref p) H'
theorem ok_led_by (F : Fun K "led_by" "led_by" s_led_by f fd) (T : Txt K mg c) (D_reached : Def P w K mg base "reached" ["heap", "seeds"] 2 (spReached K c)) :
    FnOk P w K mg base CX0 3 f fd ["heap", "source"] (spLed K c) := by
  refine F.ok sc_led_by (fun vs H Q E h => ?_) (fun cdv A outer s H vs Q E hr h => ⟨_, (pss_cons (ps_if (pt_cmpR op_eq (pv 1) pe_i (nomark _)) (pss_one (ps_ret (pe_cd D_reached (hr.mono (by decide)) rfl (pa_cons (pv 0) (pa_cons (pe_fld (pv 0) rfl) pa_nil))))) pss_nil) (pss_one (ps_ret (pe_cd D_reached (hr.mono (by decide)) rfl (pa_cons (pv 0) (pa_cons (pe_lst (pa_cons (pe_tup (pa_cons (pe_gi rfl T.gOBJECT) (pa_cons (pv 1) pa_nil))) pa_nil)) pa_nil)))))), ?_⟩)
  · obtain ⟨n, L, m, k, rfl, _⟩ := h
    rfl
  · obtain ⟨n, L, m, k, rfl, S, W, hk, q⟩ := h
    refine seq_ret (a_test (v_eq (v_var rfl) v_c)) (fun e => ?_) (fun e => ?_)
    · have e' : k = 0 := by
        have := of_decide_eq_true e
        omega
      obtain ⟨vs, h1, h2⟩ := S.c5
      refine c_2 (v_var rfl) (v_slots T S (v_var rfl)) ⟨n, L, m, _, vs, m.slots, rfl, S, W, h1, h2.mono off_sub, by rw [W.six]; decide, W.sOk, fun H' p fv s1 np hp hv => q H' p fv s1 np hp ?_⟩
      unfold Sv.ledBy
      rw [if_pos e']
      exact hv
    · have e' : k ≠ 0 := fun z => of_decide_eq_false e (by rw [z]; rfl)
      have ek : 0 < m.es k := by
        rcases hk with z | z
        · exact absurd z e'
        · exact z
      refine ret1 (e_2 (v_var rfl) (e_L1 (n_t2 v_c (v_var rfl) fun t nt => ⟨(by show 1 ≤ sizeLine; decide), fun l nl => ?_⟩)))
      have s1 : Same H (upd H t (.tup [.int 1, nV k])) := same_upd nt
      have s2 := same_new (o := .lst [.ref t]) s1 nl
      have ht : VAt K (upd (upd H t (.tup [.int 1, nV k])) l (.lst [.ref t])) (.ref t) (.object k) := VAt.new (by
        rw [upd_ne (ne_of_none upd_same nl), upd_same]
        rfl)
      refine ⟨n, L, m, l, _, [.object k], rfl, S.same s2, W, upd_same, Pt.one ht, by show 1 ≤ 1000; decide, fun v hv => ?_, fun H' p fv s3 np hp hv => q H' p fv (s2.trans s3) (s2.free np) hp ?_⟩
      · rw [List.mem_singleton] at hv
        subst hv
        exact W.ent k ek
      · unfold Sv.ledBy
        rw [if_neg e']
        exact hv
def spLedObj (K : PySem.W.Frag) (c : Cad) : Sp := fun vs H Q _ => ∃ n L m k, vs = [.ref (L 1), nV k] ∧ SiteAt K c n L H m ∧ Sv.Wf m ∧ (k = 0 ∨ 0 < m.es k) ∧
  ∀ H' p, Same H H' → H p = none → H' p = some (.lst ((Sv.objectsLed m k).map nV)) → Q (.ref p) H'
theorem objectsIn_more {xs : List Vl} {i : Nat} {x : Vl} (h : xs[i]? = some x) : Vbxlaf.objectsIn (xs.take (i + 1)) = Vbxlaf.objectsIn (xs.take i) ++ Vbxlaf.objectsIn [x] := by
  rw [take_more h]
  unfold Vbxlaf.objectsIn
  rw [List.filterMap_append]
theorem ledBy_few {m : Sv.M} (W : Sv.Wf m) (k : Nat) : (Sv.ledBy m k).length ≤ 1000 := by
  unfold Sv.ledBy
  split
  · have := Sv.reached_len W.four m.slots 60
    have := W.six
    unfold Sv.reached
    omega
  · have := Sv.reached_len W.four [Vbxlaf.Value.object k] 60
    unfold Sv.reached
    simp only [List.length_singleton] at this
    omega
theorem ok_objects_led (F : Fun K "objects_led" "objects_led" s_objects_led f fd) (T : Txt K mg c) (D_led_by : Def P w K mg base "led_by" ["heap", "source"] 3 (spLed K c)) :
    FnOk P w K mg base CX0 4 f fd ["heap", "source"] (spLedObj K c) := by
  refine F.ok sc_objects_led (fun vs H Q E h => ?_) (fun cdv A outer s H vs Q E hr h => ⟨_, (pss_one (ps_ret (pe_lc (own := [("value", 2)]) (g := gName 2) (by rfl) sc_objects_led.nd (pi_list (pe_cd D_led_by (hr.mono (by decide)) rfl (pa_cons (pv 0) (pa_cons (pv 1) pa_nil)))) (blkOk_by (N := ["heap", "source", "value"]) (sc := defScope s_objects_led) (by decide +kernel)) (fun _ _ _ _ _ => pg_name (i := 2) sc_objects_led.nd rfl (Or.inl rfl)) (fun _ _ _ _ _ => (pts_one (pt_cmpR op_eq (pe_ix (ix_tupK (K := K) rfl) (pv 2) pe_i (fun _ _ => rfl)) (pe_gi rfl T.gOBJECT) (nomark _)))) (fun _ _ _ _ _ => (pe_ix (ix_tupK (K := K) rfl) (pv 2) pe_i (fun _ _ => rfl)))))), ?_⟩)
  · obtain ⟨n, L, m, k, rfl, _⟩ := h
    rfl
  · obtain ⟨n, L, m, k, rfl, S, W, hk, q⟩ := h
    refine ret1 (lcE (iL (c_2 (v_var rfl) (v_var rfl) ⟨n, L, m, k, rfl, S, W, hk, fun H1 p fv s1 np h1 h2 => ?_⟩)))
    have lf := ledBy_few W k
    have l1 := h2.1
    refine ⟨p, rfl, ⟨_, SqL.of h1⟩, fun D hD => lc_any (SqL.of h1) hD IsN (fun _ _ _ _ _ z => z) (fun _ _ _ _ _ _ z => z) (fun i => Vbxlaf.objectsIn ((Sv.ledBy m k).take i)) rfl (by omega)
      (fun i => Nat.le_trans (List.length_filterMap_le _ _) (by rw [List.length_take]; exact Nat.min_le_left _ _)) ?_ ?_⟩
    · intro i y H' hi e Yc Nc hY hN
      obtain ⟨x, hx, hv⟩ := h2.got hi
      have hv' := hv.mono e
      refine ⟨rfl, a_test (v_eq (v_kind (v_var rfl) hv') v_c) _ ?_⟩
      cases x with
      | nothing =>
        refine ifF rfl (hN H' ?_ (Same.refl _))
        rw [objectsIn_more hx]
        exact List.append_nil _
      | foreign j =>
        refine ifF rfl (hN H' ?_ (Same.refl _))
        rw [objectsIn_more hx]
        exact List.append_nil _
      | object j => exact ifT rfl (v_num (v_var rfl) hv' _ (hY _ j H' (objectsIn_more hx) rfl (Same.refl _)))
    · intro H' vs e g1 g2
      refine q H' D (s1.trans e) (s1.free hD) ?_
      rw [l1, List.take_length] at g2
      rw [pt_nV g2] at g1
      exact g1
end
end Sw
end
section
set_option maxHeartbeats 1000000
namespace Sw
open PySem PySem.Spec PyProof.Rows L2
section
variable {P : Program} {w : World} {K : PySem.W.Frag} {mg : Str → Option Value} {base : Heap} {c : Cad} {f : Addr} {fd : FuncData}
/-! ### paths -/
/-- two places -/
def two (p q : Addr) : Nat → Addr := fun i => if i = 0 then p else q
theorem not_two {p q b : Addr} (h1 : b ≠ p) (h2 : b ≠ q) : ¬ Foot 2 (two p q) b := fun ⟨i, _, e⟩ => by
  unfold two at e
  by_cases c : i = 0
  · rw [if_pos c] at e
    exact h1 e
  · rw [if_neg c] at e
    exact h2 e
theorem of_two {p q b : Addr} (h : ¬ Foot 2 (two p q) b) : b ≠ p ∧ b ≠ q := ⟨fun e => h ⟨0, by decide, by rw [e]; rfl⟩, fun e => h ⟨1, by decide, by rw [e]; rfl⟩⟩
/-- the heap without the two lists that grow -/
noncomputable abbrev F2 (p q : Addr) (H : Hp) : Hp := off 2 (two p q) H
def WyAt (F : Hp) (v : V) (y : Sv.Way) : Prop := ∃ a, v = .ref a ∧ F a = some (.lst (y.2.map nV))
theorem WyAt.mono {F F' : Hp} (e : Same F F') {v : V} {y : Sv.Way} (h : WyAt F v y) : WyAt F' v y := by
  obtain ⟨a, h1, h2⟩ := h
  exact ⟨a, h1, e _ _ h2⟩
/-- found and ways, at p and q -/
structure FwAt (K : PySem.W.Frag) (p q : Addr) (H : Hp) (fw : List Sv.Way) : Prop where
  ne : p ≠ q
  ex : ∃ fv wv, H p = some (.lst fv) ∧ H q = some (.lst wv) ∧ VsAt K (F2 p q H) fv (Sv.keys fw) ∧ Pt (WyAt (F2 p q H)) wv fw
theorem F2_off {p q : Addr} {H H' : Hp} (e : ∀ b o, b ≠ p → b ≠ q → H b = some o → H' b = some o) : Same (F2 p q H) (F2 p q H') := fun b o h => by
  obtain ⟨h1, h2⟩ := off_some.mp h
  obtain ⟨n1, n2⟩ := of_two h2
  exact off_some.mpr ⟨e b o n1 n2 h1, h2⟩
theorem F2_in {p q b : Addr} {H : Hp} {o : HO} (h1 : b ≠ p) (h2 : b ≠ q) (h : H b = some o) : F2 p q H b = some o := off_some.mpr ⟨h, not_two h1 h2⟩
/-- all but p and q stands -/
def But2 (p q : Addr) (H H' : Hp) : Prop := ∀ b o, b ≠ p → b ≠ q → H b = some o → H' b = some o
theorem FwAt.same {p q : Addr} {H H' : Hp} {fw : List Sv.Way} (h : FwAt K p q H fw) (e : Same H H') : FwAt K p q H' fw := by
  obtain ⟨ne, fv, wv, h1, h2, h3, h4⟩ := h
  exact ⟨ne, fv, wv, e _ _ h1, e _ _ h2, h3.mono (F2_off fun b o _ _ z => e b o z), h4.mono fun _ _ z => z.mono (F2_off fun b o _ _ z => e b o z)⟩
theorem But2.same {p q : Addr} {H H' H0 : Hp} (e : But2 p q H H') (s : Same H0 H) (hp : H0 p = none) (hq : H0 q = none) : Same H0 H' := fun b o z => e b o (ne_of_none z hp) (ne_of_none z hq) (s b o z)
theorem way_more {fw : List Sv.Way} {vs : List Vl} {way : List Nat} {i : Nat} {x : Vl} (h : vs[i]? = some x) : (vs.zipIdx.take (i + 1)).foldl (Sv.addW way) fw = Sv.addW way ((vs.zipIdx.take i).foldl (Sv.addW way) fw) (x, i) := by
  have e : vs.zipIdx[i]? = some (x, i) := by
    rw [List.getElem?_zipIdx, h]
    simp
  rw [take_more e, List.foldl_append]
  rfl
theorem addWays_len (way : List Nat) : ∀ (l : List (Vl × Nat)) (fw : List Sv.Way), (l.foldl (Sv.addW way) fw).length ≤ fw.length + l.length
  | [], fw => Nat.le_refl _
  | p :: l, fw => by
    rw [List.foldl_cons]
    have h := addWays_len way l (Sv.addW way fw p)
    have h2 : (Sv.addW way fw p).length ≤ fw.length + 1 := by
      unfold Sv.addW
      split <;> simp
    rw [List.length_cons]
    omega
theorem keys_snoc {fw : List Sv.Way} {x : Vl} {y : List Nat} : Sv.keys (fw ++ [(x, y)]) = Sv.keys fw ++ [x] := by
  unfold Sv.keys
  rw [List.map_append]
  rfl
def spAddWays (K : PySem.W.Frag) : Sp := fun vs H Q _ => ∃ p q b d bv fw xs way, vs = [.ref p, .ref q, .ref b, .ref d] ∧ FwAt K p q H fw ∧ H b = some (.lst bv) ∧ VsAt K H bv xs ∧ b ≠ p ∧ b ≠ q ∧ H d = some (.lst (way.map nV)) ∧ d ≠ p ∧ d ≠ q ∧
  fw.length + xs.length ≤ 10000 ∧ way.length ≤ 10000 ∧ ∀ H', FwAt K p q H' (Sv.addWays fw xs way) → But2 p q H H' → Q .non H'
theorem ok_add_ways (F : Fun K "add_ways" "add_ways" s_add_ways f fd) (T : Txt K mg c) : FnOk P w K mg base CX0 1 f fd ["found", "ways", "values", "way"] (spAddWays K) := by
  refine F.ok sc_add_ways (fun vs H Q E h => ?_) (fun cdv A outer s H vs Q E hr h => ⟨_, (pss_one (ps_for PassesOwn.never rfl (pi_enum (by rfl) T.enumerate (pa_cons (pv 2) pa_nil)) (pg_tup rfl (pgs_cons (pg_name (i := 4) sc_add_ways.nd rfl (.inl rfl)) (pgs_cons (pg_name (i := 5) sc_add_ways.nd rfl (.inl rfl)) pgs_nil))) (pss_one (ps_if (PW.pt (pw_and (pt_cmpR (op_neD (un64 hr)) (pv 5) (pe_gr rfl T.gNOTHING) (nomark _)) (pw_and1 (pt_cmpR (op_notInD (un65 hr)) (pv 5) (pv 0) (by rfl))))) (pss_cons (ps_expr (pe_bm PySem.F.plainAttrs_list PySem.F.slot_list_append PySem.F.type_list_append mt_append (pv 0) (pa_cons (pv 5) pa_nil))) (pss_one (ps_expr (pe_bm PySem.F.plainAttrs_list PySem.F.slot_list_append PySem.F.type_list_append mt_append (pv 1) (pa_cons (pe_op op_cat (pv 3) (pe_lst (pa_cons (pv 4) pa_nil))) pa_nil))))) pss_nil)))), ?_⟩)
  · obtain ⟨p, q, b, d, bv, fw, xs, way, rfl, _⟩ := h
    rfl
  · obtain ⟨p, q, b, d, bv, fw, xs, way, rfl, hF, hb, hxs, n1, n2, hd, n3, n4, hl, hw, k⟩ := h
    refine ⟨_, rfl, b, bv, rfl, SqL.of hb, fun i m σ H' => ∃ y1 y2, σ = [some (.ref p), some (.ref q), some (.ref b), some (.ref d), y1, y2] ∧ i + m = bv.length ∧ FwAt K p q H' ((xs.zipIdx.take i).foldl (Sv.addW way) fw) ∧ But2 p q H H',
      ⟨bv.length, none, none, rfl, by omega, hF, fun _ _ _ _ z => z⟩, fun i m σ H' hW => ?_⟩
    obtain ⟨y1, y2, rfl, em, g1, g2⟩ := hW
    have hb' : H' b = some (.lst bv) := g2 b _ n1 n2 hb
    have hd' : H' d = some (.lst (way.map nV)) := g2 d _ n3 n4 hd
    have lx := hxs.1
    by_cases hi : i < bv.length
    · obtain ⟨x, hx, hy⟩ := hxs.got (List.getElem?_eq_getElem hi)
      refine .inr ⟨⟨bv, bv[i], SqL.of hb', List.getElem?_eq_getElem hi⟩, fun σ' H2 => ∃ y1 y2, σ' = [some (.ref p), some (.ref q), some (.ref b), some (.ref d), y1, y2] ∧ FwAt K p q H2 ((xs.zipIdx.take (i + 1)).foldl (Sv.addW way) fw) ∧ But2 p q H H2,
        fun σ' H2 ⟨z1, z2, e, k1, k2⟩ => ⟨m - 1, by omega, z1, z2, e, by omega, k1, k2⟩, fun u H1 hy1 => ?_⟩
      obtain ⟨t, v, rfl, nt, rfl, hv⟩ := hy1
      have ev : v = bv[i] := Option.some.inj ((hv _ (SqL.of hb')).symm.trans (List.getElem?_eq_getElem hi))
      subst ev
      have s1 : Same H' (upd H' t (.tup [.int (i : Nat), bv[i]])) := same_upd nt
      refine ⟨t, [.int (i : Nat), bv[i]], rfl, .inl (.inl upd_same), rfl, _, _, rfl, _, _, rfl, rfl, ?_⟩
      have G := g1.same s1
      obtain ⟨ne, fv, wv, h1, h2, h3, h4⟩ := G
      have B1 : But2 p q H (upd H' t (.tup [.int (i : Nat), bv[i]])) := fun a o a1 a2 z => s1 _ _ (g2 a o a1 a2 z)
      have tu : ∀ a zs, H a = some (.tup zs) → H' a = some (.tup zs) := by
        intro a zs z
        refine g2 a _ (fun e => ?_) (fun e => ?_) z
        · obtain ⟨_, fv0, wv0, q1, q2, _⟩ := hF
          rw [e, q1] at z
          cases z
        · obtain ⟨_, fv0, wv0, q1, q2, _⟩ := hF
          rw [e, q2] at z
          cases z
      have hv1 : VAt K (upd H' t (.tup [.int (i : Nat), bv[i]])) bv[i] x := (hy.tups tu).mono s1
      generalize eW : (xs.zipIdx.take i).foldl (Sv.addW way) fw = W0 at h3 h4 g1
      have lW : W0.length ≤ fw.length + xs.length := by
        rw [← eW]
        refine Nat.le_trans (addWays_len way _ fw) ?_
        rw [List.length_take, List.length_zipIdx]
        omega
      have hk : VsAt K (upd H' t (.tup [.int (i : Nat), bv[i]])) fv (Sv.keys W0) := h3.mono off_sub
      refine s_if (a_and (a_test (v_neD (v_var rfl) v_c hv1 (nothing_at T _))) (fun _ => a_test (v_notInD (v_var rfl) (v_var rfl) hv1 (SqL.of h1) hk))) (fun e => ?_) (fun e => ?_)
      · have e' : (!decide (x = .nothing)) = true ∧ (!decide (x ∈ Sv.keys W0)) = true := by simpa using e
        have e1 : x ≠ .nothing := by simpa using e'.1
        have e2 : x ∉ Sv.keys W0 := by simpa using e'.2
        have l1 := h3.1
        have l2 := h4.1
        have l3 : (Sv.keys W0).length = W0.length := by
          unfold Sv.keys
          rw [List.length_map]
        have more : (xs.zipIdx.take (i + 1)).foldl (Sv.addW way) fw = W0 ++ [(x, way ++ [i])] := by
          rw [way_more hx, eW]
          unfold Sv.addW
          exact if_pos ⟨e1, e2⟩
        -- found.append(value)
        refine ⟨_, rfl, .inl ⟨rfl, _, SqL.of h1⟩, _, rfl, p, fv, bv[i], rfl, rfl, h1, few (by omega), ?_⟩
        -- ways.append(way + [index])
        have nqp : q ≠ p := fun z => ne z.symm
        have h2' : (upd (upd H' t (.tup [.int (i : Nat), bv[i]])) p (.lst (fv ++ [bv[i]]))) q = some (.lst wv) := by
          rw [upd_ne nqp]
          exact h2
        refine ⟨_, rfl, .inl ⟨rfl, _, SqL.of h2'⟩, _, rfl, _, rfl, (by show 1 ≤ sizeLine; decide), fun u nu => ?_⟩
        have hd2 : (upd (upd H' t (.tup [.int (i : Nat), bv[i]])) p (.lst (fv ++ [bv[i]]))) d = some (.lst (way.map nV)) := by
          rw [upd_ne n3]
          exact s1 _ _ hd'
        have s2 := same_upd (o := .lst [.int (i : Nat)]) nu
        refine ⟨d, u, way.map nV, [.int (i : Nat)], rfl, rfl, s2 _ _ hd2, upd_same, by rw [List.length_map]; exact few' (by simp; omega), fun y ny => ?_⟩
        have s3 := same_new (o := .lst (way.map nV ++ [.int (i : Nat)])) s2 ny
        have nyq : y ≠ q := fun z => by
          rw [z, s2 _ _ h2'] at ny
          cases ny
        have nyp : y ≠ p := fun z => by
          rw [z, s2 _ _ upd_same] at ny
          cases ny
        refine ⟨q, wv, .ref y, rfl, rfl, s3 _ _ h2', few (by omega), ?_⟩
        refine ⟨_, _, rfl, ?_, fun a o a1 a2 z => ?_⟩
        · rw [more]
          refine ⟨ne, fv ++ [bv[i]], wv ++ [.ref y], ?_, upd_same, ?_, ?_⟩
          · rw [upd_ne ne]
            exact s3 _ _ upd_same
          · rw [keys_snoc]
            have sm : Same (F2 p q (upd H' t (.tup [.int (i : Nat), bv[i]]))) (F2 p q (upd (upd (upd (upd (upd H' t (.tup [.int (i : Nat), bv[i]])) p (.lst (fv ++ [bv[i]]))) u (.lst [.int (i : Nat)])) y (.lst (way.map nV ++ [.int (i : Nat)]))) q (.lst (wv ++ [.ref y])))) := F2_off fun a o a1 a2 z => by
              rw [upd_ne a2]
              refine s3 _ _ ?_
              rw [upd_ne a1]
              exact z
            refine Pt.snoc (h3.mono sm) (VAt.mono sm ?_)
            obtain ⟨a, ea, ha⟩ := hv1
            refine ⟨a, ea, ?_⟩
            rcases ha with ha | ha
            · refine .inl (F2_in (fun z => ?_) (fun z => ?_) ha)
              · rw [z, h1] at ha
                cases ha
              · rw [z, h2] at ha
                cases ha
            · exact .inr ha
          · have sm : Same (F2 p q (upd H' t (.tup [.int (i : Nat), bv[i]]))) (F2 p q (upd (upd (upd (upd (upd H' t (.tup [.int (i : Nat), bv[i]])) p (.lst (fv ++ [bv[i]]))) u (.lst [.int (i : Nat)])) y (.lst (way.map nV ++ [.int (i : Nat)]))) q (.lst (wv ++ [.ref y])))) := F2_off fun a o a1 a2 z => by
              rw [upd_ne a2]
              refine s3 _ _ ?_
              rw [upd_ne a1]
              exact z
            refine Pt.snoc (h4.mono fun _ _ z => z.mono sm) ⟨y, rfl, F2_in nyp nyq ?_⟩
            rw [upd_ne nyq, upd_same, List.map_append]
            rfl
        · rw [upd_ne a2]
          refine s3 _ _ ?_
          rw [upd_ne a1]
          exact B1 a o a1 a2 z
      · refine ⟨_, _, rfl, ?_, B1⟩
        rw [way_more hx, eW]
        unfold Sv.addW
        rw [if_neg fun z => ?_]
        · exact ⟨ne, fv, wv, h1, h2, h3, h4⟩
        · have : (!decide (x = .nothing)) = true ∧ (!decide (x ∈ Sv.keys W0)) = true := by
            refine ⟨by simpa using z.1, ?_⟩
            have z2 : x ∉ Sv.keys W0 := z.2
            simpa using z2
          rw [this.1, this.2] at e
          cases e
    · refine .inl ⟨⟨bv, SqL.of hb', by omega⟩, ?_⟩
      have ei : xs.zipIdx.take i = xs.zipIdx := List.take_of_length_le (by rw [List.length_zipIdx]; omega)
      rw [ei] at g1
      exact k H' g1 g2
def spFirst (K : PySem.W.Frag) (c : Cad) : Sp := fun vs H Q _ => ∃ n L m k, vs = [.ref (L 1), nV k] ∧ SiteAt K c n L H m ∧ k ≤ 40 ∧
  ∀ p lv, Foot n L p → H p = some (.lst lv) → VsAt K H lv (if k = 0 then m.slots else m.rows k) → Q (.ref p) H
theorem ok_first_values (F : Fun K "first_values" "first_values" s_first_values f fd) (T : Txt K mg c) : FnOk P w K mg base CX0 1 f fd ["heap", "source"] (spFirst K c) := by
  refine F.ok sc_first_values (fun vs H Q E h => ?_) (fun cdv A outer s H vs Q E hr h => ⟨_, (pss_cons (ps_if (pt_cmpR op_eq (pv 1) pe_i (nomark _)) (pss_one (ps_ret (pe_fld (pv 0) rfl))) pss_nil) (pss_one (ps_ret (pe_ix ix_list (pe_fld (pv 0) rfl) (pv 1) (fun _ _ => rfl))))), ?_⟩)
  · obtain ⟨n, L, m, k, rfl, _⟩ := h
    rfl
  · obtain ⟨n, L, m, k, rfl, S, hk, q⟩ := h
    refine seq_ret (a_test (v_eq (v_var rfl) v_c)) (fun e => ?_) (fun e => ?_)
    · have e' : k = 0 := by
        have := of_decide_eq_true e
        omega
      obtain ⟨vs, h1, h2⟩ := S.c5
      refine v_slots T S (v_var rfl) _ (q _ vs ⟨5, by have := S.many; omega, rfl⟩ h1 ?_)
      rw [if_pos e']
      exact h2.mono off_sub
    · have e' : k ≠ 0 := fun z => of_decide_eq_false e (by rw [z]; rfl)
      obtain ⟨vs, h1, h2⟩ := S.row (k := k) (by omega)
      refine ret1 (v_ixN (v_rows T S (v_var rfl)) (v_var rfl) (SqL.of S.c6) (tab_get (by omega)) _ (q _ vs ⟨k + 12, by have := S.many; omega, rfl⟩ h1 ?_))
      rw [if_neg e']
      exact h2.mono off_sub
def spPath (K : PySem.W.Frag) (c : Cad) : Sp := fun vs H Q _ => ∃ n L m k v x, vs = [.ref (L 1), nV k, v] ∧ SiteAt K c n L H m ∧ Sv.Wf m ∧ k ≤ 40 ∧ VAt K H v x ∧
  ∀ H' p, Same H H' → H' p = some (.lst ((Sv.firstPath m k x).map nV)) → (Sv.firstPath m k x).length ≤ 10000 → Q (.ref p) H'
theorem ways_more {rows : Nat → List Vl} {first : List Vl} {i : Nat} : (List.range (i + 1)).foldl (Sv.stepW rows) (Sv.addWays [] first []) = Sv.stepW rows ((List.range i).foldl (Sv.stepW rows) (Sv.addWays [] first [])) i := by
  rw [List.range_succ, List.foldl_append]
  rfl
/-- what holds of found and ways behind i turns: values that are met, ways of at most i + 1 indices -/
theorem ways_ok {m : Sv.M} (W : Sv.Wf m) {first : List Vl} (h1 : ∀ v ∈ first, Sv.okV m v) (h2 : first.length ≤ 6) : ∀ i, (∀ p ∈ (List.range i).foldl (Sv.stepW m.rows) (Sv.addWays [] first []), Sv.okV m p.1 ∧ p.2.length ≤ i + 1) ∧
    ((List.range i).foldl (Sv.stepW m.rows) (Sv.addWays [] first [])).length ≤ 6 + 4 * i := by
  have one : ∀ (vs : List Vl) (way : List Nat) (fw : List Sv.Way) (j : Nat), (∀ v ∈ vs, Sv.okV m v) → way.length ≤ j → (∀ p ∈ fw, Sv.okV m p.1 ∧ p.2.length ≤ j + 1) → ∀ p ∈ Sv.addWays fw vs way, Sv.okV m p.1 ∧ p.2.length ≤ j + 1 := by
    intro vs way fw j hv hw hf
    have hz : ∀ e ∈ vs.zipIdx, Sv.okV m e.1 := fun e he => hv _ (List.mem_of_getElem? (List.mem_zipIdx_iff_getElem?.mp he))
    unfold Sv.addWays
    generalize vs.zipIdx = l at hz
    induction l generalizing fw with
    | nil => exact hf
    | cons a l ih =>
      rw [List.foldl_cons]
      refine ih _ (fun p hp => ?_) fun e he => hz e (List.mem_cons_of_mem _ he)
      unfold Sv.addW at hp
      split at hp
      · rcases List.mem_append.mp hp with r | r
        · exact hf p r
        · rw [List.mem_singleton] at r
          subst r
          refine ⟨hz a (List.mem_cons_self ..), ?_⟩
          show (way ++ [a.2]).length ≤ j + 1
          rw [List.length_append, List.length_singleton]
          omega
      · exact hf p hp
  intro i
  induction i with
  | zero =>
    refine ⟨one first [] [] 0 h1 (Nat.le_refl _) (fun p hp => by cases hp), ?_⟩
    have := addWays_len [] first.zipIdx []
    rw [List.length_zipIdx] at this
    show (Sv.addWays [] first []).length ≤ 6
    unfold Sv.addWays
    simp only [List.length_nil] at this
    omega
  | succ i ih =>
    rw [ways_more]
    generalize (List.range i).foldl (Sv.stepW m.rows) (Sv.addWays [] first []) = f0 at ih
    unfold Sv.stepW
    cases e : f0[i]? with
    | none => exact ⟨fun p hp => ⟨(ih.1 p hp).1, Nat.le_trans (ih.1 p hp).2 (by omega)⟩, by have := ih.2; show f0.length ≤ _; omega⟩
    | some y =>
      have hy := ih.1 y (List.mem_of_getElem? e)
      have ok : ∀ v ∈ Sv.fieldsM m.rows y.1, Sv.okV m v := by
        intro v hv
        cases q : y.1 with
        | object k =>
          rw [q] at hv
          exact W.rOk k v hv
        | nothing =>
          rw [q] at hv
          cases hv
        | foreign k =>
          rw [q] at hv
          cases hv
      have fl : (Sv.fieldsM m.rows y.1).length ≤ 4 := by
        cases y.1 with
        | object k => exact W.four k
        | nothing => exact Nat.zero_le _
        | foreign k => exact Nat.zero_le _
      refine ⟨one _ _ _ (i + 1) ok hy.2 fun p hp => ⟨(ih.1 p hp).1, Nat.le_trans (ih.1 p hp).2 (by omega)⟩, ?_⟩
      have := addWays_len y.2 (Sv.fieldsM m.rows y.1).zipIdx f0
      rw [List.length_zipIdx] at this
      have := ih.2
      show (Sv.addWays f0 (Sv.fieldsM m.rows y.1) y.2).length ≤ _
      unfold Sv.addWays
      omega
theorem ok_first_path (F : Fun K "first_path" "first_path" s_first_path f fd) (T : Txt K mg c) (D_add_ways : Def P w K mg base "add_ways" ["found", "ways", "values", "way"] 1 (spAddWays K)) (D_fields_of : Def P w K mg base "fields_of" ["heap", "value"] 1 (spFields K c))
    (D_first_values : Def P w K mg base "first_values" ["heap", "source"] 1 (spFirst K c)) : FnOk P w K mg base CX0 2 f fd ["heap", "source", "target"] (spPath K c) := by
  refine F.ok sc_first_path (fun vs H Q E h => ?_) (fun cdv A outer s H vs Q E hr h => ⟨_, (pss_cons (ps_set (i := 3) sc_first_path.nd rfl (.inl rfl) (pe_lst pa_nil)) (pss_cons (ps_set (i := 4) sc_first_path.nd rfl (.inl rfl) (pe_lst pa_nil)) (pss_cons (ps_expr (pe_cd D_add_ways (hr.mono (by decide)) rfl (pa_cons (pv 3) (pa_cons (pv 4) (pa_cons (pe_cd D_first_values (hr.mono (by decide)) rfl (pa_cons (pv 0) (pa_cons (pv 1) pa_nil))) (pa_cons (pe_lst pa_nil) pa_nil)))))) (pss_cons (ps_for PassesOwn.never rfl (pi_range1 (by rfl) T.range (pa_cons (pe_gi rfl T.gMOST_VALUES) pa_nil)) (pg_name (i := 5) sc_first_path.nd rfl (.inl rfl)) (pss_one (ps_if (pt_cmpR op_lt (pv 5) (pe_callB call_len_seq (by rfl) T.len PySem.boot_len (pa_cons (pv 3) pa_nil)) (nomark _)) (pss_one (ps_expr (pe_cd D_add_ways (hr.mono (by decide)) rfl (pa_cons (pv 3) (pa_cons (pv 4) (pa_cons (pe_cd D_fields_of (hr.mono (by decide)) rfl (pa_cons (pv 0) (pa_cons (pe_ix ix_list (pv 3) (pv 5) (fun _ _ => rfl)) pa_nil))) (pa_cons (pe_ix ix_list (pv 4) (pv 5) (fun _ _ => rfl)) pa_nil))))))) pss_nil))) (pss_cons (ps_for PassesOwn.never rfl (pi_enum (by rfl) T.enumerate (pa_cons (pv 3) pa_nil)) (pg_tup rfl (pgs_cons (pg_name (i := 5) sc_first_path.nd rfl (.inl rfl)) (pgs_cons (pg_name (i := 6) sc_first_path.nd rfl (.inl rfl)) pgs_nil))) (pss_one (ps_if (pt_cmpR (op_eqD (un64 hr)) (pv 6) (pv 2) (nomark _)) (pss_one (ps_ret (pe_ix ix_list (pv 4) (pv 5) (fun _ _ => rfl)))) pss_nil))) (pss_one (ps_ret (pe_lst pa_nil)))))))), ?_⟩)
  · obtain ⟨n, L, m, k, v, x, rfl, _⟩ := h
    rfl
  · obtain ⟨n, L, m, k, v, x, rfl, S, W, hk, hv, q⟩ := h
    -- found = [], ways = []
    refine seq_set (n_nil fun p np => ?_)
    have s1 : Same H (upd H p (.lst [])) := same_upd np
    refine seq_set (n_nil fun r nr => ?_)
    have s2 := same_new (o := .lst []) s1 nr
    have npr : p ≠ r := ne_of_none upd_same nr
    have nr0 : H r = none := s1.free nr
    have hp0 : (upd (upd H p (.lst [])) r (.lst [])) p = some (.lst []) := by
      rw [upd_ne npr]
      exact upd_same
    -- add_ways(found, ways, first_values(heap, source), [])
    refine seq_drop ⟨_, rfl, _, rfl, c_2 (v_var rfl) (v_var rfl) ⟨n, L, m, k, rfl, S.same s2, hk, fun b bv fb hb hbv => ⟨(Nat.zero_le _), fun d nd0 => ?_⟩⟩⟩
    have s3 := same_new (o := .lst []) s2 nd0
    have nbp : b ≠ p := fun e => S.new np (by rw [← e]; exact fb)
    have nbr : b ≠ r := fun e => S.new nr0 (by rw [← e]; exact fb)
    have ndp : d ≠ p := fun e => by
      rw [e, hp0] at nd0
      cases nd0
    have ndr : d ≠ r := fun e => by
      rw [e, upd_same] at nd0
      cases nd0
    have okF : ∀ v ∈ (if k = 0 then m.slots else m.rows k), Sv.okV m v := by
      split
      · exact W.sOk
      · exact W.rOk k
    have lenF : (if k = 0 then m.slots else m.rows k).length ≤ 6 := by
      split
      · rw [W.six]
        exact Nat.le_refl _
      · have := W.four k
        omega
    generalize eF : (if k = 0 then m.slots else m.rows k) = first at hbv okF lenF
    have s4 := same_upd (o := .lst []) nd0
    refine ⟨p, r, b, d, bv, [], first, [], rfl, ⟨npr, [], [], s4 _ _ hp0, s4 _ _ upd_same, Pt.nil, Pt.nil⟩, s4 _ _ hb, hbv.mono s4, nbp, nbr, upd_same, ndp, ndr, by show 0 + first.length ≤ 10000; omega, Nat.zero_le _, fun H1 g1 g2 => ?_⟩
    have t1 : Same H H1 := g2.same s3 np nr0
    have WK := ways_ok W okF lenF
    refine seq_forR (N := 60) v_c (by decide) (by decide) (fun i σ H' => ∃ y1 y2, σ = [some (.ref (L 1)), some (nV k), some v, some (.ref p), some (.ref r), y1, y2] ∧ Same H H' ∧ FwAt K p r H' ((List.range i).foldl (Sv.stepW m.rows) (Sv.addWays [] first [])))
      ⟨none, none, rfl, t1, g1⟩ ?_ ?_
    · rintro i σ H' hi ⟨y1, y2, rfl, e, g⟩
      obtain ⟨wk1, wk2⟩ := WK i
      generalize eW : (List.range i).foldl (Sv.stepW m.rows) (Sv.addWays [] first []) = W0 at g wk1 wk2
      obtain ⟨_, fv, wv, h1, h2, h3, h4⟩ := g
      have l1 := h3.1
      have l2 := h4.1
      have l3 : (Sv.keys W0).length = W0.length := by
        unfold Sv.keys
        rw [List.length_map]
      refine gN (s_if (a_test (v_lt (v_var rfl) (v_len (v_var rfl) (SqL.of h1)))) (fun hlt => ?_) (fun hlt => ?_))
      · have hlt' : i < fv.length := by
          have := of_decide_eq_true hlt
          omega
        have hiW : i < W0.length := by omega
        have eK : (Sv.keys W0)[i]? = some W0[i].1 := by
          unfold Sv.keys
          rw [List.getElem?_map, List.getElem?_eq_getElem hiW]
          rfl
        obtain ⟨x0, hx0, hv0⟩ := h3.got (List.getElem?_eq_getElem hlt')
        rw [eK] at hx0
        cases hx0
        obtain ⟨w0, hw0, a, ea, ha⟩ := h4.get (List.getElem?_eq_getElem hiW)
        have hmem := wk1 _ (List.getElem_mem hiW)
        refine drop1 ⟨_, rfl, _, rfl, c_2 (v_var rfl) (v_ixN (v_var rfl) (v_var rfl) (SqL.of h1) (List.getElem?_eq_getElem hlt')) ⟨n, L, m, _, W0[i].1, rfl, S.same e, hv0.mono off_sub, ok40 W hmem.1, fun H2 p2 lv e2 ft hp2 hlv => ?_⟩⟩
        have nnp : p2 ≠ p := by
          rcases ft with ft | ft
          · exact fun z => S.new np (by rw [← z]; exact ft)
          · exact fun z => by
              rw [z, h1] at ft
              cases ft
        have nnr : p2 ≠ r := by
          rcases ft with ft | ft
          · exact fun z => S.new nr0 (by rw [← z]; exact ft)
          · exact fun z => by
              rw [z, h2] at ft
              cases ft
        subst ea
        obtain ⟨ha1, ha2⟩ := off_some.mp ha
        obtain ⟨nap, nar⟩ := of_two ha2
        have fl : (Sv.fieldsM m.rows W0[i].1).length ≤ 4 := by
          cases W0[i].1 with
          | object k => exact W.four k
          | nothing => exact Nat.zero_le _
          | foreign k => exact Nat.zero_le _
        refine v_ixN (v_var rfl) (v_var rfl) (SqL.of (e2 _ _ h2)) hw0 _ ⟨p, r, p2, a, lv, W0, _, W0[i].2, rfl, ⟨npr, fv, wv, e2 _ _ h1, e2 _ _ h2, h3.mono (F2_off fun _ _ _ _ z => e2 _ _ z), h4.mono fun _ _ z => z.mono (F2_off fun _ _ _ _ z => e2 _ _ z)⟩, hp2, hlv, nnp, nnr, e2 _ _ ha1, nap, nar, by omega, by have := hmem.2; omega, fun H3 k1 k2 => ?_⟩
        refine ⟨_, _, rfl, k2.same (e.trans e2) np nr0, ?_⟩
        rw [ways_more, eW]
        unfold Sv.stepW
        rw [List.getElem?_eq_getElem hiW]
        exact k1
      · refine ⟨_, _, rfl, e, ?_⟩
        have hlt' : ¬ i < fv.length := by
          have := of_decide_eq_false hlt
          omega
        rw [ways_more, eW]
        unfold Sv.stepW
        rw [List.getElem?_eq_none (by omega)]
        exact ⟨npr, fv, wv, h1, h2, h3, h4⟩
    · rintro σ H' ⟨y1, y2, rfl, e, g⟩
      obtain ⟨wk1, wk2⟩ := WK 60
      have eP : Sv.firstPath m k x = ((Sv.hit x (Sv.ways m.rows first)).map fun p => p.2).getD [] := by
        rw [Sv.firstPath_is, eF]
      obtain ⟨_, fv, wv, h1, h2, h3, h4⟩ := g
      have hW : ((List.range (60 : Int).toNat).foldl (Sv.stepW m.rows) (Sv.addWays [] first [])) = Sv.ways m.rows first := rfl
      rw [hW] at h3 h4
      have hW' : ((List.range 60).foldl (Sv.stepW m.rows) (Sv.addWays [] first [])) = Sv.ways m.rows first := rfl
      rw [hW'] at wk1 wk2
      generalize Sv.ways m.rows first = W0 at eP h3 h4 wk1 wk2
      have l1 := h3.1
      have l2 := h4.1
      have l3 : (Sv.keys W0).length = W0.length := by
        unfold Sv.keys
        rw [List.length_map]
      -- for at, value in enumerate(found): none of the first i is it
      refine ⟨_, rfl, p, fv, rfl, SqL.of h1, fun i j σ H2 => ∃ y1 y2, σ = [some (.ref (L 1)), some (nV k), some v, some (.ref p), some (.ref r), y1, y2] ∧ i + j = fv.length ∧ Same H' H2 ∧ ∀ y ∈ W0.take i, y.1 ≠ x,
        ⟨fv.length, _, _, rfl, by omega, Same.refl _, fun y hy => by cases hy⟩, fun i j σ H2 hW2 => ?_⟩
      obtain ⟨y1, y2, rfl, em, e2, no⟩ := hW2
      have h1' := e2 _ _ h1
      by_cases hi : i < fv.length
      · have hiW : i < W0.length := by omega
        have eK : (Sv.keys W0)[i]? = some W0[i].1 := by
          unfold Sv.keys
          rw [List.getElem?_map, List.getElem?_eq_getElem hiW]
          rfl
        refine .inr ⟨⟨fv, fv[i], SqL.of h1', List.getElem?_eq_getElem hi⟩, fun σ' H3 => ∃ y1 y2, σ' = [some (.ref (L 1)), some (nV k), some v, some (.ref p), some (.ref r), y1, y2] ∧ Same H' H3 ∧ ∀ y ∈ W0.take (i + 1), y.1 ≠ x,
          fun σ' H3 ⟨z1, z2, ee, k1, k2⟩ => ⟨j - 1, by omega, z1, z2, ee, by omega, k1, k2⟩, fun u H1' hy1 => ?_⟩
        obtain ⟨t, v0, rfl, nt, rfl, hv0⟩ := hy1
        have ev : v0 = fv[i] := Option.some.inj ((hv0 _ (SqL.of h1')).symm.trans (List.getElem?_eq_getElem hi))
        subst ev
        have s5 : Same H2 (upd H2 t (.tup [.int (i : Nat), fv[i]])) := same_upd nt
        refine ⟨t, [.int (i : Nat), fv[i]], rfl, .inl (.inl upd_same), rfl, _, _, rfl, _, _, rfl, rfl, ?_⟩
        obtain ⟨x0, hx0, hvx⟩ := h3.got (List.getElem?_eq_getElem hi)
        rw [eK] at hx0
        cases hx0
        have hvx' := (hvx.mono off_sub).mono (e2.trans s5)
        have hvt := hv.mono ((e.trans e2).trans s5)
        refine s_if (a_test (v_eqD (v_var rfl) (v_var rfl) hvx' hvt)) (fun c1 => ?_) (fun c1 => ?_)
        · have c2 : W0[i].1 = x := of_decide_eq_true c1
          obtain ⟨w0, hw0, a, ea, ha⟩ := h4.get (List.getElem?_eq_getElem hiW)
          subst ea
          obtain ⟨ha1, ha2⟩ := off_some.mp ha
          have fnd : Sv.hit x W0 = some W0[i] := by
            have n1 : (W0.take i).find? (fun p => decide (p.1 = x)) = none := List.find?_eq_none.mpr fun y hy => by simpa using no y hy
            have sp : W0.take i ++ W0[i] :: W0.drop (i + 1) = W0 := by
              rw [← List.drop_eq_getElem_cons hiW, List.take_append_drop]
            have f1 : (W0.take i ++ W0[i] :: W0.drop (i + 1)).find? (fun p => decide (p.1 = x)) = some W0[i] := by
              rw [List.find?_append, n1, Option.none_or, List.find?_cons_of_pos (by simpa using c2)]
            exact (congrArg (fun l : List Sv.Way => l.find? (fun p => decide (p.1 = x))) sp).symm.trans f1
          have eP2 : Sv.firstPath m k x = W0[i].2 := by
            rw [eP, fnd]
            rfl
          have ln := (wk1 _ (List.getElem_mem hiW)).2
          refine s_ret (v_ixN (v_var rfl) (v_var rfl) (SqL.of ((e2.trans s5) _ _ h2)) hw0) (q _ a ((e.trans e2).trans s5) ?_ ?_)
          · rw [eP2]
            exact (e2.trans s5) _ _ ha1
          · rw [eP2]
            omega
        · have c2 : ¬ W0[i].1 = x := of_decide_eq_false c1
          refine ⟨_, _, rfl, e2.trans s5, fun y hy => ?_⟩
          rw [take_more (List.getElem?_eq_getElem hiW)] at hy
          rcases List.mem_append.mp hy with z | z
          · exact no y z
          · rw [List.mem_singleton] at z
            rw [z]
            exact c2
      · refine .inl ⟨⟨fv, SqL.of h1', by omega⟩, ?_⟩
        have all : ∀ y ∈ W0, y.1 ≠ x := by
          have ei : W0.take i = W0 := List.take_of_length_le (by omega)
          rw [ei] at no
          exact no
        have fnd : Sv.hit x W0 = none := List.find?_eq_none.mpr fun y hy => by simpa using all y hy
        have eP2 : Sv.firstPath m k x = [] := by
          rw [eP, fnd]
          rfl
        refine ⟨Nat.zero_le _, fun l nl => q _ l ((e.trans e2).trans (same_upd nl)) ?_ ?_⟩
        · rw [eP2]
          exact upd_same
        · rw [eP2]
          exact Nat.zero_le _
end
end Sw
end
section
set_option maxHeartbeats 1000000
namespace Sw
open PySem PySem.Spec PyProof.Rows L2
/-! ### changes of the site, place by place -/
section
variable {K : PySem.W.Frag} {mg : Str → Option Value} {c : Cad} {n : Nat} {L L' : Nat → Addr} {H H1 : Hp} {m : Sv.M} {k : Nat}
theorem put_here {f : Str} {v x : V} {r : List (Str × V)} : putF f v ((f, x) :: r) = (f, v) :: r := if_pos rfl
theorem put_past {f g : Str} {v x : V} {r : List (Str × V)} (h : ¬ g = f) : putF f v ((g, x) :: r) = (g, x) :: putF f v r := if_neg h
theorem SiteAt.setSlots (S : SiteAt K c n L H m) {vs : List V} {xs : List Vl} (h : VsAt K (off n L H) vs xs) : SiteAt K c n L (upd H (L 5) (.lst vs)) { m with slots := xs } ∧ Fr n L H L (upd H (L 5) (.lst vs)) :=
  S.change (j := 5) (by decide) (⟨_, rfl, h⟩) fun i _ ne x h => match i, ne, h with
    | 0, _, h => h
    | 1, _, h => h
    | 2, _, h => h
    | 3, _, h => h
    | 4, _, h => h
    | 5, ne, _ => absurd rfl ne
    | 6, _, h => h
    | 7, _, h => h
    | 8, _, h => h
    | 9, _, h => h
    | 10, _, h => h
    | 11, _, h => h
    | k + 12, _, h => h
theorem SiteAt.setMade (S : SiteAt K c n L H m) {dx : Addr} (y : Nat) : SiteAt K c n L (upd H (L 1) (.ins c.Heap dx [("slots", .ref (L 5)), ("made", nV y), ("rows", .ref (L 6)), ("living", .ref (L 7))])) { m with made := y } ∧ Fr n L H L (upd H (L 1) (.ins c.Heap dx [("slots", .ref (L 5)), ("made", nV y), ("rows", .ref (L 6)), ("living", .ref (L 7))])) :=
  S.change (j := 1) (by decide) (⟨_, rfl⟩) fun i _ ne x h => match i, ne, h with
    | 0, _, h => h
    | 1, ne, _ => absurd rfl ne
    | 2, _, h => h
    | 3, _, h => h
    | 4, _, h => h
    | 5, _, h => h
    | 6, _, h => h
    | 7, _, h => h
    | 8, _, h => h
    | 9, _, h => h
    | 10, _, h => h
    | 11, _, h => h
    | k + 12, _, h => h
theorem SiteAt.setUses (S : SiteAt K c n L H m) {dx : Addr} (y : Nat) : SiteAt K c n L (upd H (L 2) (.ins c.Names dx [("uses", nV y), ("entry_stamps", .ref (L 8)), ("import_stamps", .ref (L 9))])) { m with uses := y } ∧ Fr n L H L (upd H (L 2) (.ins c.Names dx [("uses", nV y), ("entry_stamps", .ref (L 8)), ("import_stamps", .ref (L 9))])) :=
  S.change (j := 2) (by decide) (⟨_, rfl⟩) fun i _ ne x h => match i, ne, h with
    | 0, _, h => h
    | 1, _, h => h
    | 2, ne, _ => absurd rfl ne
    | 3, _, h => h
    | 4, _, h => h
    | 5, _, h => h
    | 6, _, h => h
    | 7, _, h => h
    | 8, _, h => h
    | 9, _, h => h
    | 10, _, h => h
    | 11, _, h => h
    | k + 12, _, h => h
theorem SiteAt.setSc (S : SiteAt K c n L H m) {dx a : Addr} (y : Bool) (h0 : LedAt (off n L H) a m.led) : SiteAt K c n L (upd H (L 3) (.ins c.Marks dx [("led", .ref a), ("slots_changed", .bl y), ("changed", .ref (L 10)), ("fresh", .ref (L 11))])) { m with sc := y } ∧ Fr n L H L (upd H (L 3) (.ins c.Marks dx [("led", .ref a), ("slots_changed", .bl y), ("changed", .ref (L 10)), ("fresh", .ref (L 11))])) :=
  S.change (j := 3) (by decide) (⟨_, _, rfl, h0⟩) fun i _ ne x h => match i, ne, h with
    | 0, _, h => h
    | 1, _, h => h
    | 2, _, h => h
    | 3, ne, _ => absurd rfl ne
    | 4, _, h => h
    | 5, _, h => h
    | 6, _, h => h
    | 7, _, h => h
    | 8, _, h => h
    | 9, _, h => h
    | 10, _, h => h
    | 11, _, h => h
    | k + 12, _, h => h
theorem SiteAt.setSurveys (S : SiteAt K c n L H m) {vs : List V} {xs : List (List Vbxlaf.Line)} (h : Pt (LinesAt (off n L H)) vs xs) : SiteAt K c n L (upd H (L 4) (.lst vs)) { m with surveys := xs } ∧ Fr n L H L (upd H (L 4) (.lst vs)) :=
  S.change (j := 4) (by decide) (⟨_, rfl, h⟩) fun i _ ne x h => match i, ne, h with
    | 0, _, h => h
    | 1, _, h => h
    | 2, _, h => h
    | 3, _, h => h
    | 4, ne, _ => absurd rfl ne
    | 5, _, h => h
    | 6, _, h => h
    | 7, _, h => h
    | 8, _, h => h
    | 9, _, h => h
    | 10, _, h => h
    | 11, _, h => h
    | k + 12, _, h => h
theorem SiteAt.setLiving (S : SiteAt K c n L H m) (f : Nat → Bool) : SiteAt K c n L (upd H (L 7) (.lst (tab 41 fun i => .bl (f i)))) { m with living := f } ∧ Fr n L H L (upd H (L 7) (.lst (tab 41 fun i => .bl (f i)))) :=
  S.change (j := 7) (by decide) (rfl) fun i _ ne x h => match i, ne, h with
    | 0, _, h => h
    | 1, _, h => h
    | 2, _, h => h
    | 3, _, h => h
    | 4, _, h => h
    | 5, _, h => h
    | 6, _, h => h
    | 7, ne, _ => absurd rfl ne
    | 8, _, h => h
    | 9, _, h => h
    | 10, _, h => h
    | 11, _, h => h
    | k + 12, _, h => h
theorem SiteAt.setEs (S : SiteAt K c n L H m) (f : Nat → Nat) : SiteAt K c n L (upd H (L 8) (.lst (tab 41 fun i => nV (f i)))) { m with es := f } ∧ Fr n L H L (upd H (L 8) (.lst (tab 41 fun i => nV (f i)))) :=
  S.change (j := 8) (by decide) (rfl) fun i _ ne x h => match i, ne, h with
    | 0, _, h => h
    | 1, _, h => h
    | 2, _, h => h
    | 3, _, h => h
    | 4, _, h => h
    | 5, _, h => h
    | 6, _, h => h
    | 7, _, h => h
    | 8, ne, _ => absurd rfl ne
    | 9, _, h => h
    | 10, _, h => h
    | 11, _, h => h
    | k + 12, _, h => h
theorem SiteAt.setIm (S : SiteAt K c n L H m) (f : Nat → Nat) : SiteAt K c n L (upd H (L 9) (.lst (tab 21 fun i => nV (f i)))) { m with im := f } ∧ Fr n L H L (upd H (L 9) (.lst (tab 21 fun i => nV (f i)))) :=
  S.change (j := 9) (by decide) (rfl) fun i _ ne x h => match i, ne, h with
    | 0, _, h => h
    | 1, _, h => h
    | 2, _, h => h
    | 3, _, h => h
    | 4, _, h => h
    | 5, _, h => h
    | 6, _, h => h
    | 7, _, h => h
    | 8, _, h => h
    | 9, ne, _ => absurd rfl ne
    | 10, _, h => h
    | 11, _, h => h
    | k + 12, _, h => h
theorem SiteAt.setChanged (S : SiteAt K c n L H m) (f : Nat → Bool) : SiteAt K c n L (upd H (L 10) (.lst (tab 41 fun i => .bl (f i)))) { m with changed := f } ∧ Fr n L H L (upd H (L 10) (.lst (tab 41 fun i => .bl (f i)))) :=
  S.change (j := 10) (by decide) (rfl) fun i _ ne x h => match i, ne, h with
    | 0, _, h => h
    | 1, _, h => h
    | 2, _, h => h
    | 3, _, h => h
    | 4, _, h => h
    | 5, _, h => h
    | 6, _, h => h
    | 7, _, h => h
    | 8, _, h => h
    | 9, _, h => h
    | 10, ne, _ => absurd rfl ne
    | 11, _, h => h
    | k + 12, _, h => h
theorem SiteAt.setFresh (S : SiteAt K c n L H m) (f : Nat → Bool) : SiteAt K c n L (upd H (L 11) (.lst (tab 41 fun i => .bl (f i)))) { m with fresh := f } ∧ Fr n L H L (upd H (L 11) (.lst (tab 41 fun i => .bl (f i)))) :=
  S.change (j := 11) (by decide) (rfl) fun i _ ne x h => match i, ne, h with
    | 0, _, h => h
    | 1, _, h => h
    | 2, _, h => h
    | 3, _, h => h
    | 4, _, h => h
    | 5, _, h => h
    | 6, _, h => h
    | 7, _, h => h
    | 8, _, h => h
    | 9, _, h => h
    | 10, _, h => h
    | 11, ne, _ => absurd rfl ne
    | k + 12, _, h => h
theorem SiteAt.setRow (S : SiteAt K c n L H m) (hk : k < 41) {vs : List V} {xs : List Vl} (h : VsAt K (off n L H) vs xs) : SiteAt K c n L (upd H (L (k + 12)) (.lst vs)) { m with rows := Sv.fset m.rows k xs } ∧ Fr n L H L (upd H (L (k + 12)) (.lst vs)) := by
  refine S.change (j := k + 12) (by omega) ?_ fun i _ ne x h => ?_
  · refine ⟨_, rfl, ?_⟩
    show VsAt K (off n L H) vs (Sv.fset m.rows k xs k)
    rw [Sv.fset_same]
    exact h
  · exact match i, ne, h with
    | 0, _, h => h
    | 1, _, h => h
    | 2, _, h => h
    | 3, _, h => h
    | 4, _, h => h
    | 5, _, h => h
    | 6, _, h => h
    | 7, _, h => h
    | 8, _, h => h
    | 9, _, h => h
    | 10, _, h => h
    | 11, _, h => h
    | k' + 12, ne, h => by
      obtain ⟨ws, h1, h2⟩ := h
      refine ⟨ws, h1, ?_⟩
      show VsAt K (off n L H) ws (Sv.fset m.rows k xs k')
      rw [Sv.fset_ne (fun e => ne (by rw [e]))]
      exact h2
theorem rowTab (p : Addr) : ((tab 41 fun i => V.ref (L (i + 12))).set k (.ref p)) = tab 41 fun i => V.ref (Sv.fset L (k + 12) p (i + 12)) := by
  have h := tab_set (n := 41) (k := k) (g := V.ref) (f := fun i => L (i + 12)) (y := p)
  rw [h]
  congr 1
  funext i
  unfold Sv.fset
  by_cases e : i = k
  · rw [if_pos e, if_pos (by omega)]
  · rw [if_neg e, if_neg (by omega)]
/-- a row gets a new list, laid at p -/
theorem SiteAt.newRow (S : SiteAt K c n L H m) (hk : k < 41) {p : Addr} {lv : List V} {xs : List Vl} (e : Same H H1) (np : H p = none) (hp : H1 p = some (.lst lv)) (hv : VsAt K (off n L H) lv xs) :
    SiteAt K c n (Sv.fset L (k + 12) p) (upd H1 (L 6) (.lst (tab 41 fun i => .ref (Sv.fset L (k + 12) p (i + 12))))) { m with rows := Sv.fset m.rows k xs } ∧
    Fr n L H (Sv.fset L (k + 12) p) (upd H1 (L 6) (.lst (tab 41 fun i => .ref (Sv.fset L (k + 12) p (i + 12))))) := by
  have hn := S.many
  have pL : ∀ i, i < n → p ≠ L i := fun i hi z => S.new np ⟨i, hi, z⟩
  have fne : ∀ i, i ≠ k + 12 → Sv.fset L (k + 12) p i = L i := fun i hi => Sv.fset_ne hi
  have feq : Sv.fset L (k + 12) p (k + 12) = p := Sv.fset_same
  generalize eo : HO.lst (tab 41 fun i => .ref (Sv.fset L (k + 12) p (i + 12))) = o
  have at6 : (upd H1 (L 6) o) (L 6) = some o := upd_same
  have oth : ∀ i, i < n → i ≠ 6 → (upd H1 (L 6) o) (L i) = H (L i) := fun i hi h6 => by
    rw [upd_ne fun z => h6 (S.inj i 6 hi (by omega) z)]
    obtain ⟨x, hx⟩ := S.there hi
    rw [hx]
    exact e _ _ hx
  have ho : Same (off n L H) (off n (Sv.fset L (k + 12) p) (upd H1 (L 6) o)) := fun b x hb => by
    obtain ⟨h1, h2⟩ := off_some.mp hb
    have hb6 : b ≠ L 6 := fun z => h2 ⟨6, by omega, z⟩
    refine off_some.mpr ⟨?_, fun ⟨i, hi, z⟩ => ?_⟩
    · rw [upd_ne hb6]
      exact e _ _ h1
    · by_cases q : i = k + 12
      · rw [q, feq] at z
        rw [z, np] at h1
        cases h1
      · rw [fne i q] at z
        exact h2 ⟨i, hi, z⟩
  refine ⟨⟨hn, fun i j hi hj z => ?_, fun i hi => ?_, fun i h1 h2 => ?_⟩, ⟨ho, fun i h1 h2 => ⟨fne i (by omega), oth i h2 (by omega)⟩, fne 0 (by omega)⟩⟩
  · by_cases a : i = k + 12
    · by_cases b : j = k + 12
      · omega
      · rw [a, feq, fne j b] at z
        exact absurd z (pL j hj)
    · by_cases b : j = k + 12
      · rw [b, feq, fne i a] at z
        exact absurd z.symm (pL i hi)
      · rw [fne i a, fne j b] at z
        exact S.inj i j hi hj z
  · by_cases a : i = k + 12
    · subst a
      have hpn : (upd H1 (L 6) o) p = some (.lst lv) := by
        rw [upd_ne (pL 6 (by omega))]
        exact hp
      rw [feq, hpn]
      refine ⟨lv, rfl, ?_⟩
      show VsAt K _ lv (Sv.fset m.rows k xs k)
      rw [Sv.fset_same]
      exact hv.mono ho
    · rw [fne i a]
      by_cases b : i = 6
      · subst b
        rw [at6, ← eo]
        rfl
      · rw [oth i (by omega) b]
        have C := (S.cell i hi).mono ho
        have l1 := fne 1 (by omega)
        have l2 := fne 2 (by omega)
        have l3 := fne 3 (by omega)
        have l4 := fne 4 (by omega)
        have l5 := fne 5 (by omega)
        have l6 := fne 6 (by omega)
        have l7 := fne 7 (by omega)
        have l8 := fne 8 (by omega)
        have l9 := fne 9 (by omega)
        have l10 := fne 10 (by omega)
        have l11 := fne 11 (by omega)
        exact match i, a, b, C with
        | 0, _, _, C => by
          unfold Cell at C ⊢
          rw [l1, l2, l3, l4]
          exact C
        | 1, _, _, C => by
          unfold Cell at C ⊢
          rw [l5, l6, l7]
          exact C
        | 2, _, _, C => by
          unfold Cell at C ⊢
          rw [l8, l9]
          exact C
        | 3, _, _, C => by
          unfold Cell at C ⊢
          rw [l10, l11]
          exact C
        | 4, _, _, C => C
        | 5, _, _, C => C
        | 6, _, b, _ => absurd rfl b
        | 7, _, _, C => C
        | 8, _, _, C => C
        | 9, _, _, C => C
        | 10, _, _, C => C
        | 11, _, _, C => C
        | k' + 12, a, _, C => by
          obtain ⟨ws, h1, h2⟩ := C
          refine ⟨ws, h1, ?_⟩
          show VsAt K _ ws (Sv.fset m.rows k xs k')
          rw [Sv.fset_ne (fun z => a (by rw [z]))]
          exact h2
  · rw [fne i (by omega), oth i h2 (by omega)]
    exact S.ext i h1 h2
end

section
variable {P : Program} {w : World} {K : PySem.W.Frag} {mg : Str → Option Value} {base : Heap} {c : Cad} {f : Addr} {fd : FuncData}
theorem seq_fldaug {ta tv : TE} {rd : V → V → Hp → VK → Prop} {fl : Str} {us : TS} {D : Ends} {σ : L2.St} {H : Hp}
    (h : ta σ H fun x H1 => ∃ a C dx fs v, x = .ref a ∧ H1 a = some (.ins C dx fs) ∧ Cls K C ∧ NoAttr K C fl ∧ fs.lookup fl = some v ∧
      tv σ H1 fun y H2 => rd v y H2 fun z H3 => ∃ dx' fs', H3 a = some (.ins C dx' fs') ∧ fs'.length < 1000 ∧ us D σ (upd H3 a (.ins C dx' (putF fl z fs')))) : tSeq (sFldAug K ta tv rd fl) us D σ H := h
theorem seq_fld {ta tv : TE} {fl : Str} {us : TS} {D : Ends} {σ : L2.St} {H : Hp}
    (h : tv σ H fun y H1 => ta σ H1 fun x H2 => ∃ a C dx fs, x = .ref a ∧ H2 a = some (.ins C dx fs) ∧ Cls K C ∧ NoAttr K C fl ∧ fs.length < 1000 ∧ us D σ (upd H2 a (.ins C dx (putF fl y fs)))) : tSeq (sFld K ta tv fl) us D σ H := h
theorem fld1 {ta tv : TE} {fl : Str} {D : Ends} {σ : L2.St} {H : Hp}
    (h : tv σ H fun y H1 => ta σ H1 fun x H2 => ∃ a C dx fs, x = .ref a ∧ H2 a = some (.ins C dx fs) ∧ Cls K C ∧ NoAttr K C fl ∧ fs.length < 1000 ∧ D.nx σ (upd H2 a (.ins C dx (putF fl y fs)))) : sFld K ta tv fl D σ H := h
/-! ### the heap's methods -/
theorem getD_at {A : Type} {l : List A} {i : Nat} {d : A} (h : i < l.length) : l[i]? = some (l.getD i d) := by
  rw [List.getD_eq_getElem?_getD, List.getElem?_eq_getElem h]
  rfl
def spSetSlot (K : PySem.W.Frag) (c : Cad) : Sp := fun vs H Q _ => ∃ n L m k v x, vs = [.ref (L 1), nV k, v] ∧ SiteAt K c n L H m ∧ m.slots.length = 6 ∧ k < 6 ∧ VAt K (off n L H) v x ∧
  ∀ H', SiteAt K c n L H' { m with slots := m.slots.set k x } → Fr n L H L H' → Q (.bl (!decide (m.slots.getD k .nothing = x))) H'
theorem ok_set_slot (F : Fun K "set_slot" "Heap.set_slot" s_Heap_set_slot f fd) (T : Txt K mg c) : FnOk P w K mg base CX0 1 f fd ["self", "slot", "value"] (spSetSlot K c) := by
  refine F.ok sc_Heap_set_slot (fun vs H Q E h => ?_) (fun cdv A outer s H vs Q E hr h => ⟨_, (pss_cons (ps_set (i := 3) sc_Heap_set_slot.nd rfl (.inl rfl) (pe_cmpR (op_neD (un64 hr)) (pe_ix ix_list (pe_fld (pv 0) rfl) (pv 1) (fun _ _ => rfl)) (pv 2) (nomark _))) (pss_cons (ps_asg (pv 2) (pg_sub (pe_fld (pv 0) rfl) (pv 1) set_list)) (pss_one (ps_ret (pv 3))))), ?_⟩)
  · obtain ⟨n, L, m, k, v, x, rfl, _⟩ := h
    rfl
  · obtain ⟨n, L, m, k, v, x, rfl, S, h6, hk, hv, q⟩ := h
    obtain ⟨sv, h1, h2⟩ := S.c5
    obtain ⟨v0, hv0, hx0⟩ := h2.get (getD_at (l := m.slots) (i := k) (d := .nothing) (by omega))
    have l1 := h2.1
    have C := S.setSlots (h2.set hv k)
    refine seq_set (v_neD (v_ixN (v_slots T S (v_var rfl)) (v_var rfl) (SqL.of h1) hv0) (v_var rfl) (hx0.mono off_sub) (hv.mono off_sub) _ ?_)
    refine seq_asg (v_var rfl _ (gSubE (v_slots T S (v_var rfl)) (v_var rfl) h1 (by omega) ?_))
    exact s_ret (v_var rfl) (q _ C.1 C.2)
def spSetField (K : PySem.W.Frag) (c : Cad) : Sp := fun vs H Q _ => ∃ n L m a b v x, vs = [.ref (L 1), nV a, nV b, v] ∧ SiteAt K c n L H m ∧ a < 41 ∧ b < (m.rows a).length ∧ VAt K (off n L H) v x ∧
  ∀ H', SiteAt K c n L H' { m with rows := Sv.fset m.rows a ((m.rows a).set b x) } → Fr n L H L H' → Q (.bl (!decide ((m.rows a).getD b .nothing = x))) H'
theorem ok_set_field (F : Fun K "set_field" "Heap.set_field" s_Heap_set_field f fd) (T : Txt K mg c) : FnOk P w K mg base CX0 1 f fd ["self", "number", "field", "value"] (spSetField K c) := by
  refine F.ok sc_Heap_set_field (fun vs H Q E h => ?_) (fun cdv A outer s H vs Q E hr h => ⟨_, (pss_cons (ps_set (i := 4) sc_Heap_set_field.nd rfl (.inl rfl) (pe_cmpR (op_neD (un64 hr)) (pe_ix ix_list (pe_ix ix_list (pe_fld (pv 0) rfl) (pv 1) (fun _ _ => rfl)) (pv 2) (fun _ _ => rfl)) (pv 3) (nomark _))) (pss_cons (ps_asg (pv 3) (pg_sub (pe_ix ix_list (pe_fld (pv 0) rfl) (pv 1) (fun _ _ => rfl)) (pv 2) set_list)) (pss_one (ps_ret (pv 4))))), ?_⟩)
  · obtain ⟨n, L, m, a, b, v, x, rfl, _⟩ := h
    rfl
  · obtain ⟨n, L, m, a, b, v, x, rfl, S, ha, hb, hv, q⟩ := h
    obtain ⟨sv, h1, h2⟩ := S.row ha
    obtain ⟨v0, hv0, hx0⟩ := h2.get (getD_at (l := m.rows a) (i := b) (d := .nothing) hb)
    have l1 := h2.1
    have C := S.setRow ha (h2.set hv b)
    refine seq_set (v_neD (v_ixN (v_ixN (v_rows T S (v_var rfl)) (v_var rfl) (SqL.of S.c6) (tab_get ha)) (v_var rfl) (SqL.of h1) hv0) (v_var rfl) (hx0.mono off_sub) (hv.mono off_sub) _ ?_)
    refine seq_asg (v_var rfl _ (gSubE (v_ixN (v_rows T S (v_var rfl)) (v_var rfl) (SqL.of S.c6) (tab_get ha)) (v_var rfl) h1 (by omega) ?_))
    exact s_ret (v_var rfl) (q _ C.1 C.2)
theorem yesT {σ : L2.St} {H : Hp} {A B : Hp → Prop} (h : A H) : tYes σ H fun b H3 => if b = true then A H3 else B H3 := by
  show if true = true then A H else B H
  rw [if_pos rfl]
  exact h
/-- [v0 for at in range(n)] -/
theorem lc_const {lo : Int} {n : Nat} {v0 : V} {j : Nat} {ws : List Nat} {σ : L2.St} {H1 : Hp} {D : Addr} {Qd : Hp → Prop} (hD : H1 D = none) (hx : n ≤ 100000) (hw : ∀ y : Option V, wipe ((wipe σ ws).set j y) ws = wipe σ ws)
    (hd : ∀ H', Same H1 H' → H' D = some (.lst (List.replicate n v0)) → Qd H') :
    ∃ W : Nat → Nat → Hp → Prop, (∃ m, W 0 m (upd H1 D (.lst []))) ∧ ∀ i m H, W i m H →
      ((Itr lo n).stop i H ∧ Qd H) ∨ ((Itr lo n).go i H ∧ ∃ Nx : Hp → Prop, (∀ H', Nx H' → ∃ m', m' < m ∧ W (i + 1) m' H') ∧ ∀ x H', (Itr lo n).yld i H x H' → gName j x (wipe σ ws) H' fun σ2 H2 => wipe σ2 ws = wipe σ ws ∧ tYes σ2 H2 fun b H3 =>
        if b = true then (fun (_ : L2.St) (H : Hp) (Q : VK) => Q v0 H) σ2 H3 fun y H4 => ∃ acc, H4 D = some (.lst acc) ∧ acc.length < sizeLine ∧ Nx (upd H4 D (.lst (acc ++ [y]))) else Nx H3) := by
  refine lc_rng (lo := lo) (g := gName j) (tt := tYes) (te := fun _ H Q => Q v0 H) (ws := ws) (σ := σ) (Qd := Qd) hD (fun _ v (u : Unit) => v = v0) (fun _ _ _ _ _ z => z) (fun _ _ _ _ _ _ z => z) (fun i => List.replicate i ()) rfl hx (fun i => by rw [List.length_replicate]; exact Nat.le_refl _) ?_ ?_
  · intro i H' hi e Yc Nc hY hN
    exact ⟨hw _, hY v0 () H' List.replicate_succ' rfl (Same.refl _)⟩
  · intro H' vs e h1 h2
    have ev : vs = List.replicate n v0 := by
      refine List.ext_getElem? fun i => ?_
      by_cases hi : i < n
      · obtain ⟨v, hv, r⟩ := h2.get (show (List.replicate n ())[i]? = some () by rw [List.getElem?_replicate, if_pos hi])
        have r' : v = v0 := r
        rw [hv, r', List.getElem?_replicate, if_pos hi]
      · have l1 := h2.1
        rw [List.length_replicate] at l1
        rw [List.getElem?_eq_none (by omega), List.getElem?_eq_none (by rw [List.length_replicate]; omega)]
    rw [ev] at h1
    exact hd H' e h1
/-- [[] for at in range(n)] -/
theorem lc_lists {lo : Int} {n : Nat} {j : Nat} {ws : List Nat} {σ : L2.St} {H1 : Hp} {D : Addr} {Qd : Hp → Prop} (hD : H1 D = none) (hx : n ≤ 100000) (hw : ∀ y : Option V, wipe ((wipe σ ws).set j y) ws = wipe σ ws)
    (hd : ∀ H' (as : List Addr), Same H1 H' → H' D = some (.lst (as.map V.ref)) → as.length = n → as.Nodup → (∀ a ∈ as, H1 a = none ∧ a ≠ D ∧ H' a = some (.lst [])) → Qd H') :
    ∃ W : Nat → Nat → Hp → Prop, (∃ m, W 0 m (upd H1 D (.lst []))) ∧ ∀ i m H, W i m H →
      ((Itr lo n).stop i H ∧ Qd H) ∨ ((Itr lo n).go i H ∧ ∃ Nx : Hp → Prop, (∀ H', Nx H' → ∃ m', m' < m ∧ W (i + 1) m' H') ∧ ∀ x H', (Itr lo n).yld i H x H' → gName j x (wipe σ ws) H' fun σ2 H2 => wipe σ2 ws = wipe σ ws ∧ tYes σ2 H2 fun b H3 =>
        if b = true then tLst tNil σ2 H3 fun y H4 => ∃ acc, H4 D = some (.lst acc) ∧ acc.length < sizeLine ∧ Nx (upd H4 D (.lst (acc ++ [y]))) else Nx H3) := by
  refine lc_range (lo := lo) (n := n) (fun i H' => Same H1 H' ∧ ∃ as : List Addr, H' D = some (.lst (as.map V.ref)) ∧ as.length = i ∧ as.Nodup ∧ (∀ a ∈ as, H1 a = none ∧ a ≠ D ∧ H' a = some (.lst [])) ∧ i ≤ n) ?_ ?_ ?_
  · exact ⟨same_upd hD, [], upd_same, rfl, List.nodup_nil, fun a h => (by cases h), Nat.zero_le _⟩
  · rintro i H' hi ⟨e, as, h1, h2, h3, h4, h5⟩
    refine ⟨hw _, yesT ⟨Nat.zero_le _, fun p np => ?_⟩⟩
    have s1 := same_upd (o := .lst []) np
    have pD : p ≠ D := fun z => by
      rw [z, h1] at np
      cases np
    refine ⟨_, s1 _ _ h1, few (by rw [List.length_map]; omega), same_old (e.trans s1) hD, as ++ [p], ?_, ?_, ?_, ?_, hi⟩
    · rw [upd_same, List.map_append]
      rfl
    · rw [List.length_append, h2]
      rfl
    · rw [List.nodup_append]
      refine ⟨h3, by simp, fun a ha b hb z => ?_⟩
      rw [List.mem_singleton] at hb
      have := (h4 a ha).2.2
      rw [z, hb, np] at this
      cases this
    · intro a ha
      rcases List.mem_append.mp ha with ha | ha
      · obtain ⟨q1, q2, q3⟩ := h4 a ha
        refine ⟨q1, q2, ?_⟩
        rw [upd_ne q2]
        exact s1 _ _ q3
      · rw [List.mem_singleton] at ha
        subst ha
        refine ⟨e.free np, pD, ?_⟩
        rw [upd_ne pD]
        exact upd_same
  · rintro H' ⟨e, as, h1, h2, h3, h4, _⟩
    exact hd H' as e h1 h2 h3 h4
def spMake (K : PySem.W.Frag) (c : Cad) : Sp := fun vs H Q _ => ∃ n L m k, vs = [.ref (L 1), nV k] ∧ SiteAt K c n L H m ∧ m.made < 40 ∧ k ≤ 4 ∧
  ∀ L' H', SiteAt K c n L' H' (Sv.makeM m k) → Fr n L H L' H' → Q (nV (m.made + 1)) H'
theorem ok_make (F : Fun K "make" "Heap.make" s_Heap_make f fd) (T : Txt K mg c) : FnOk P w K mg base CX0 1 f fd ["self", "field_count"] (spMake K c) := by
  refine F.ok sc_Heap_make (fun vs H Q E h => ?_) (fun cdv A outer s H vs Q E hr h => ⟨_, (pss_cons (ps_fldaug (pv 0) pe_i in_add) (pss_cons (ps_asg (pe_lc (own := [("at", 2)]) (g := gName 2) (by rfl) sc_Heap_make.nd (pi_range1 (by rfl) T.range (pa_cons (pv 1) pa_nil)) (blkOk_by (N := ["self", "field_count", "at"]) (sc := defScope s_Heap_make) (by decide +kernel)) (fun _ _ _ _ _ => pg_name (i := 2) sc_Heap_make.nd rfl (Or.inl rfl)) (fun _ _ _ _ _ => pts_nil) (fun _ _ _ _ _ => (pe_gr rfl T.gNOTHING))) (pg_sub (pe_fld (pv 0) rfl) (pe_fld (pv 0) rfl) set_list)) (pss_cons (ps_asg pe_b (pg_sub (pe_fld (pv 0) rfl) (pe_fld (pv 0) rfl) set_list)) (pss_one (ps_ret (pe_fld (pv 0) rfl)))))), ?_⟩)
  · obtain ⟨n, L, m, k, rfl, _⟩ := h
    rfl
  · obtain ⟨n, L, m, k, rfl, S, hm, hk, q⟩ := h
    -- self.made += 1
    obtain ⟨dx, h1⟩ := S.c1
    have C1 := S.setMade (dx := dx) (m.made + 1)
    refine seq_fldaug ⟨_, rfl, _, _, dx, _, _, rfl, h1, T.cHeap, T.nmade, (lk_past (by decide)).trans lk_here, _, _, rfl, rfl, _, _, h1, (by show 4 < 1000; decide), ?_⟩
    rw [show putF "made" (V.int ((m.made : Int) + 1)) [(("slots" : Str), V.ref (L 5)), ("made", nV m.made), ("rows", .ref (L 6)), ("living", .ref (L 7))] = [(("slots" : Str), .ref (L 5)), ("made", nV (m.made + 1)), ("rows", .ref (L 6)), ("living", .ref (L 7))] from
      (put_past (by decide)).trans (congrArg _ put_here)]
    obtain ⟨S1, F1⟩ := C1
    generalize upd H (L 1) (.ins c.Heap dx [("slots", .ref (L 5)), ("made", nV (m.made + 1)), ("rows", .ref (L 6)), ("living", .ref (L 7))]) = H1 at S1 F1
    -- self.rows[self.made] = [NOTHING for at in range(field_count)]
    refine seq_asg ?_
    refine lcE (iR1 (j := (k : Int)) (v_var rfl) (by omega) (by omega) ?_)
    intro D hD
    refine lc_const hD (by omega) (fun y => rfl) fun H2 s2 g2 => ?_
    have S2 := S1.same s2
    refine gSubE (v_rows T S2 (v_var rfl)) (v_made T S2 (v_var rfl)) S2.c6 (by rw [tab_len]; show m.made + 1 < 41; omega) ?_
    have C3 := S1.newRow (k := m.made + 1) (by omega) (xs := List.replicate k .nothing) s2 hD g2 (by rw [Int.toNat_natCast]; exact Pt.rep (nothing_at T _) _)
    rw [show (tab 41 fun i => V.ref (L (i + 12))).set (m.made + 1) (.ref D) = _ from rowTab D]
    obtain ⟨S3, F3⟩ := C3
    have z1 : Sv.fset L (m.made + 1 + 12) D 1 = L 1 := Sv.fset_ne (by omega)
    generalize Sv.fset L (m.made + 1 + 12) D = L3 at S3 F3 z1
    generalize upd H2 (L 6) (.lst (tab 41 fun i => .ref (L3 (i + 12)))) = H3 at S3 F3
    -- self.living[self.made] = True
    refine seq_asg (gSubE (v_living T S3 (by rw [z1]; exact v_var rfl)) (v_made T S3 (by rw [z1]; exact v_var rfl)) S3.c7 (by rw [tab_len]; show m.made + 1 < 41; omega) ?_)
    have C4 := S3.setLiving (Sv.fset m.living (m.made + 1) true)
    rw [show (tab 41 fun i => V.bl (m.living i)).set (m.made + 1) (.bl true) = _ from tab_set]
    exact s_ret (v_made T C4.1 (by rw [z1]; exact v_var rfl)) (q _ _ C4.1 ((F1.trans F3).trans C4.2))
def spDrop (K : PySem.W.Frag) (c : Cad) : Sp := fun vs H Q _ => ∃ n L m k, vs = [.ref (L 1), nV k] ∧ SiteAt K c n L H m ∧ k < 41 ∧
  ∀ L' H', SiteAt K c n L' H' (Sv.dropObj m k) → Fr n L H L' H' → L' 1 = L 1 → Q .non H'
theorem ok_drop (F : Fun K "drop" "Heap.drop" s_Heap_drop f fd) (T : Txt K mg c) : FnOk P w K mg base CX0 1 f fd ["self", "number"] (spDrop K c) := by
  refine F.ok sc_Heap_drop (fun vs H Q E h => ?_) (fun cdv A outer s H vs Q E hr h => ⟨_, (pss_cons (ps_asg (pe_lst pa_nil) (pg_sub (pe_fld (pv 0) rfl) (pv 1) set_list)) (pss_one (ps_asg pe_b (pg_sub (pe_fld (pv 0) rfl) (pv 1) set_list)))), ?_⟩)
  · obtain ⟨n, L, m, k, rfl, _⟩ := h
    rfl
  · obtain ⟨n, L, m, k, rfl, S, hk, q⟩ := h
    refine seq_asg (n_nil fun D hD => ?_)
    have s2 := same_upd (o := .lst []) hD
    have S2 := S.same s2
    refine gSubE (v_rows T S2 (v_var rfl)) (v_var rfl) S2.c6 (by rw [tab_len]; exact hk) ?_
    have C3 := S.newRow hk (xs := []) s2 hD upd_same Pt.nil
    rw [rowTab D]
    obtain ⟨S3, F3⟩ := C3
    have z1 : Sv.fset L (k + 12) D 1 = L 1 := Sv.fset_ne (by omega)
    generalize Sv.fset L (k + 12) D = L3 at S3 F3 z1
    generalize upd (upd H D (.lst [])) (L 6) (.lst (tab 41 fun i => .ref (L3 (i + 12)))) = H3 at S3 F3
    have C4 := S3.setLiving (Sv.fset m.living k false)
    refine asgG (gSubE (v_living T S3 (by rw [z1]; exact v_var rfl)) (v_var rfl) S3.c7 (by rw [tab_len]; exact hk) ?_)
    rw [show (tab 41 fun i => V.bl (m.living i)).set k (.bl false) = _ from tab_set]
    exact q _ _ C4.1 (F3.trans C4.2) z1
end
end Sw
end
section
set_option maxHeartbeats 1000000
namespace Sw
open PySem PySem.Spec PyProof.Rows L2
section
variable {P : Program} {w : World} {K : PySem.W.Frag} {mg : Str → Option Value} {base : Heap} {c : Cad} {f : Addr} {fd : FuncData}
theorem if_m {te : TE} {ts us : TS} {D : Ends} {σ : L2.St} {H : Hp} (h : te σ H fun x H1 => ∃ k, x = .bl k ∧ if k = true then ts D σ H1 else us D σ H1) : tIfS (tB te) ts us D σ H := h
theorem seq_ifm {te : TE} {ts us vs : TS} {D : Ends} {σ : L2.St} {H : Hp} (h : te σ H fun x H1 => ∃ k, x = .bl k ∧ if k = true then ts { nx := vs D, rt := D.rt, bk := D.bk, ct := D.ct } σ H1 else us { nx := vs D, rt := D.rt, bk := D.bk, ct := D.ct } σ H1) : tSeq (tIfS (tB te) ts us) vs D σ H := h
/-! ### Names -/
def spUseE (K : PySem.W.Frag) (c : Cad) : Sp := fun vs H Q _ => ∃ n L m k, vs = [.ref (L 2), nV k] ∧ SiteAt K c n L H m ∧ k < 41 ∧
  ∀ H', SiteAt K c n L H' { m with uses := m.uses + 1, es := Sv.fset m.es k (m.uses + 1) } → Fr n L H L H' → Q (nV (m.uses + 1)) H'
theorem putUses {L : Nat → Addr} (x y : Nat) : putF "uses" (V.int ((x : Int) + 1)) [(("uses" : Str), nV y), ("entry_stamps", .ref (L 8)), ("import_stamps", .ref (L 9))] = [(("uses" : Str), nV (x + 1)), ("entry_stamps", .ref (L 8)), ("import_stamps", .ref (L 9))] := put_here
theorem ok_use_entry (F : Fun K "use_entry" "Names.use_entry" s_Names_use_entry f fd) (T : Txt K mg c) : FnOk P w K mg base CX0 1 f fd ["self", "number"] (spUseE K c) := by
  refine F.ok sc_Names_use_entry (fun vs H Q E h => ?_) (fun cdv A outer s H vs Q E hr h => ⟨_, (pss_cons (ps_fldaug (pv 0) pe_i in_add) (pss_cons (ps_asg (pe_fld (pv 0) rfl) (pg_sub (pe_fld (pv 0) rfl) (pv 1) set_list)) (pss_one (ps_ret (pe_fld (pv 0) rfl))))), ?_⟩)
  · obtain ⟨n, L, m, k, rfl, _⟩ := h
    rfl
  · obtain ⟨n, L, m, k, rfl, S, hk, q⟩ := h
    obtain ⟨dx, h1⟩ := S.c2
    obtain ⟨S1, F1⟩ := S.setUses (dx := dx) (m.uses + 1)
    refine seq_fldaug ⟨_, rfl, _, _, dx, _, _, rfl, h1, T.cNames, T.nuses, lk_here, _, _, rfl, rfl, _, _, h1, (by show 3 < 1000; decide), ?_⟩
    rw [putUses]
    generalize upd H (L 2) (.ins c.Names dx [("uses", nV (m.uses + 1)), ("entry_stamps", .ref (L 8)), ("import_stamps", .ref (L 9))]) = H1 at S1 F1
    refine seq_asg ?_
    refine v_uses T S1 (v_var rfl) _ (gSubE (v_es T S1 (v_var rfl)) (v_var rfl) S1.c8 (by rw [tab_len]; exact hk) ?_)
    have C := S1.setEs (Sv.fset m.es k (m.uses + 1))
    rw [show (tab 41 fun i => nV (m.es i)).set k (nV (m.uses + 1)) = _ from tab_set]
    exact s_ret (v_uses T C.1 (v_var rfl)) (q _ C.1 (F1.trans C.2))
def spUseI (K : PySem.W.Frag) (c : Cad) : Sp := fun vs H Q _ => ∃ n L m k, vs = [.ref (L 2), nV k] ∧ SiteAt K c n L H m ∧ k < 21 ∧
  ∀ H', SiteAt K c n L H' (Sv.useForeign m k) → Fr n L H L H' → Q (nV (m.uses + 1)) H'
theorem ok_use_import (F : Fun K "use_import" "Names.use_import" s_Names_use_import f fd) (T : Txt K mg c) : FnOk P w K mg base CX0 1 f fd ["self", "number"] (spUseI K c) := by
  refine F.ok sc_Names_use_import (fun vs H Q E h => ?_) (fun cdv A outer s H vs Q E hr h => ⟨_, (pss_cons (ps_fldaug (pv 0) pe_i in_add) (pss_cons (ps_asg (pe_fld (pv 0) rfl) (pg_sub (pe_fld (pv 0) rfl) (pv 1) set_list)) (pss_one (ps_ret (pe_fld (pv 0) rfl))))), ?_⟩)
  · obtain ⟨n, L, m, k, rfl, _⟩ := h
    rfl
  · obtain ⟨n, L, m, k, rfl, S, hk, q⟩ := h
    obtain ⟨dx, h1⟩ := S.c2
    obtain ⟨S1, F1⟩ := S.setUses (dx := dx) (m.uses + 1)
    refine seq_fldaug ⟨_, rfl, _, _, dx, _, _, rfl, h1, T.cNames, T.nuses, lk_here, _, _, rfl, rfl, _, _, h1, (by show 3 < 1000; decide), ?_⟩
    rw [putUses]
    generalize upd H (L 2) (.ins c.Names dx [("uses", nV (m.uses + 1)), ("entry_stamps", .ref (L 8)), ("import_stamps", .ref (L 9))]) = H1 at S1 F1
    refine seq_asg ?_
    refine v_uses T S1 (v_var rfl) _ (gSubE (v_im T S1 (v_var rfl)) (v_var rfl) S1.c9 (by rw [tab_len]; exact hk) ?_)
    have C := S1.setIm (Sv.fset m.im k (m.uses + 1))
    rw [show (tab 21 fun i => nV (m.im i)).set k (nV (m.uses + 1)) = _ from tab_set]
    exact s_ret (v_uses T C.1 (v_var rfl)) (q _ C.1 (F1.trans C.2))
def spDropE (K : PySem.W.Frag) (c : Cad) : Sp := fun vs H Q _ => ∃ n L m k, vs = [.ref (L 2), nV k] ∧ SiteAt K c n L H m ∧ k < 41 ∧ ∀ H', SiteAt K c n L H' (Sv.dropEnt m k) → Fr n L H L H' → Q .non H'
theorem ok_drop_entry (F : Fun K "drop_entry" "Names.drop_entry" s_Names_drop_entry f fd) (T : Txt K mg c) : FnOk P w K mg base CX0 1 f fd ["self", "number"] (spDropE K c) := by
  refine F.ok sc_Names_drop_entry (fun vs H Q E h => ?_) (fun cdv A outer s H vs Q E hr h => ⟨_, (pss_one (ps_asg pe_i (pg_sub (pe_fld (pv 0) rfl) (pv 1) set_list))), ?_⟩)
  · obtain ⟨n, L, m, k, rfl, _⟩ := h
    rfl
  · obtain ⟨n, L, m, k, rfl, S, hk, q⟩ := h
    have C := S.setEs (Sv.fset m.es k 0)
    refine asgG (gSubE (v_es T S (v_var rfl)) (v_var rfl) S.c8 (by rw [tab_len]; exact hk) ?_)
    rw [show (tab 41 fun i => nV (m.es i)).set k (.int 0) = _ from tab_set (y := 0)]
    exact q _ C.1 C.2
def spDropI (K : PySem.W.Frag) (c : Cad) : Sp := fun vs H Q _ => ∃ n L m k, vs = [.ref (L 2), nV k] ∧ SiteAt K c n L H m ∧ k < 21 ∧ ∀ H', SiteAt K c n L H' (Sv.dropImp m k) → Fr n L H L H' → Q .non H'
theorem ok_drop_import (F : Fun K "drop_import" "Names.drop_import" s_Names_drop_import f fd) (T : Txt K mg c) : FnOk P w K mg base CX0 1 f fd ["self", "number"] (spDropI K c) := by
  refine F.ok sc_Names_drop_import (fun vs H Q E h => ?_) (fun cdv A outer s H vs Q E hr h => ⟨_, (pss_one (ps_asg pe_i (pg_sub (pe_fld (pv 0) rfl) (pv 1) set_list))), ?_⟩)
  · obtain ⟨n, L, m, k, rfl, _⟩ := h
    rfl
  · obtain ⟨n, L, m, k, rfl, S, hk, q⟩ := h
    have C := S.setIm (Sv.fset m.im k 0)
    refine asgG (gSubE (v_im T S (v_var rfl)) (v_var rfl) S.c9 (by rw [tab_len]; exact hk) ?_)
    rw [show (tab 21 fun i => nV (m.im i)).set k (.int 0) = _ from tab_set (y := 0)]
    exact q _ C.1 C.2
/-! ### Marks -/
theorem putSc {L : Nat → Addr} (a : Addr) (x y : Bool) : putF "slots_changed" (V.bl y) [(("led" : Str), V.ref a), ("slots_changed", .bl x), ("changed", .ref (L 10)), ("fresh", .ref (L 11))] = [(("led" : Str), .ref a), ("slots_changed", .bl y), ("changed", .ref (L 10)), ("fresh", .ref (L 11))] :=
  (put_past (by decide)).trans (congrArg _ put_here)
def spNoteS (K : PySem.W.Frag) (c : Cad) : Sp := fun vs H Q _ => ∃ n L m, vs = [.ref (L 3)] ∧ SiteAt K c n L H m ∧ ∀ H', SiteAt K c n L H' { m with sc := true } → Fr n L H L H' → Q .non H'
theorem ok_note_slot (F : Fun K "note_slot" "Marks.note_slot" s_Marks_note_slot f fd) (T : Txt K mg c) : FnOk P w K mg base CX0 1 f fd ["self"] (spNoteS K c) := by
  refine F.ok sc_Marks_note_slot (fun vs H Q E h => ?_) (fun cdv A outer s H vs Q E hr h => ⟨_, (pss_one (ps_fld (pv 0) pe_b rfl)), ?_⟩)
  · obtain ⟨n, L, m, rfl, _⟩ := h
    rfl
  · obtain ⟨n, L, m, rfl, S, q⟩ := h
    obtain ⟨dx, a, h1, h2⟩ := S.c3
    have C := S.setSc (dx := dx) (a := a) true h2
    refine fld1 ⟨_, rfl, _, _, dx, _, rfl, h1, T.cMarks, T.nsc, (by show 4 < 1000; decide), ?_⟩
    rw [putSc]
    exact q _ C.1 C.2
def spNoteF (K : PySem.W.Frag) (c : Cad) : Sp := fun vs H Q _ => ∃ n L m k, vs = [.ref (L 3), nV k] ∧ SiteAt K c n L H m ∧ k < 41 ∧ ∀ H', SiteAt K c n L H' { m with changed := Sv.fset m.changed k true } → Fr n L H L H' → Q .non H'
theorem ok_note_field (F : Fun K "note_field" "Marks.note_field" s_Marks_note_field f fd) (T : Txt K mg c) : FnOk P w K mg base CX0 1 f fd ["self", "number"] (spNoteF K c) := by
  refine F.ok sc_Marks_note_field (fun vs H Q E h => ?_) (fun cdv A outer s H vs Q E hr h => ⟨_, (pss_one (ps_asg pe_b (pg_sub (pe_fld (pv 0) rfl) (pv 1) set_list))), ?_⟩)
  · obtain ⟨n, L, m, k, rfl, _⟩ := h
    rfl
  · obtain ⟨n, L, m, k, rfl, S, hk, q⟩ := h
    have C := S.setChanged (Sv.fset m.changed k true)
    refine asgG (gSubE (v_changed T S (v_var rfl)) (v_var rfl) S.c10 (by rw [tab_len]; exact hk) ?_)
    rw [show (tab 41 fun i => V.bl (m.changed i)).set k (.bl true) = _ from tab_set]
    exact q _ C.1 C.2
def spNoteE (K : PySem.W.Frag) (c : Cad) : Sp := fun vs H Q _ => ∃ n L m k, vs = [.ref (L 3), nV k] ∧ SiteAt K c n L H m ∧ k < 41 ∧ ∀ H', SiteAt K c n L H' { m with fresh := Sv.fset m.fresh k true } → Fr n L H L H' → Q .non H'
theorem ok_note_entry (F : Fun K "note_entry" "Marks.note_entry" s_Marks_note_entry f fd) (T : Txt K mg c) : FnOk P w K mg base CX0 1 f fd ["self", "number"] (spNoteE K c) := by
  refine F.ok sc_Marks_note_entry (fun vs H Q E h => ?_) (fun cdv A outer s H vs Q E hr h => ⟨_, (pss_one (ps_asg pe_b (pg_sub (pe_fld (pv 0) rfl) (pv 1) set_list))), ?_⟩)
  · obtain ⟨n, L, m, k, rfl, _⟩ := h
    rfl
  · obtain ⟨n, L, m, k, rfl, S, hk, q⟩ := h
    have C := S.setFresh (Sv.fset m.fresh k true)
    refine asgG (gSubE (v_fresh T S (v_var rfl)) (v_var rfl) S.c11 (by rw [tab_len]; exact hk) ?_)
    rw [show (tab 41 fun i => V.bl (m.fresh i)).set k (.bl true) = _ from tab_set]
    exact q _ C.1 C.2
/-! ### Site -/
theorem put_moved {m : Sv.M} {k : Nat} {x : Vl} (h : ¬ m.slots.getD k .nothing = x) : Sv.put m k x = { m with slots := m.slots.set k x, sc := true } := by
  unfold Sv.put
  rw [decide_eq_true h, Bool.or_true]
theorem put_still {m : Sv.M} {k : Nat} {x : Vl} (h : m.slots.getD k .nothing = x) : Sv.put m k x = { m with slots := m.slots.set k x } := by
  unfold Sv.put
  rw [decide_eq_false (fun z => z h), Bool.or_false]
def spPut (K : PySem.W.Frag) (c : Cad) : Sp := fun vs H Q _ => ∃ n L m k v x, vs = [.ref (L 0), nV k, v] ∧ SiteAt K c n L H m ∧ m.slots.length = 6 ∧ k < 6 ∧ VAt K (off n L H) v x ∧
  ∀ H', SiteAt K c n L H' (Sv.put m k x) → Fr n L H L H' → Q .non H'
theorem ok_put (F : Fun K "put" "Site.put" s_Site_put f fd) (T : Txt K mg c) (D_Heap_set_slot : MDef P w K mg base c.Heap "set_slot" ["self", "slot", "value"] 1 (spSetSlot K c)) (D_Marks_note_slot : MDef P w K mg base c.Marks "note_slot" ["self"] 1 (spNoteS K c)) :
    FnOk P w K mg base CX0 2 f fd ["self", "slot", "value"] (spPut K c) := by
  refine F.ok sc_Site_put (fun vs H Q E h => ?_) (fun cdv A outer s H vs Q E hr h => ⟨_, (pss_one (ps_if (pt_val (pe_md (pe_fld (pv 0) rfl) T.cHeap D_Heap_set_slot (hr.mono (by decide)) (pa_cons (pv 1) (pa_cons (pv 2) pa_nil)))) (pss_one (ps_expr (pe_md0 (pe_fld (pv 0) rfl) T.cMarks D_Marks_note_slot (hr.mono (by decide))))) pss_nil)), ?_⟩)
  · obtain ⟨n, L, m, k, v, x, rfl, _⟩ := h
    rfl
  · obtain ⟨n, L, m, k, v, x, rfl, S, h6, hk, hv, q⟩ := h
    refine if_m (m_2 (v_heap T S (v_var rfl)) (S.o1 (lk4 (by decide) (by decide) (by decide) (by decide))) (v_var rfl) (v_var rfl) ⟨n, L, m, k, v, x, rfl, S, h6, hk, hv, fun H1 S1 F1 => ⟨_, rfl, ?_⟩⟩)
    by_cases e : m.slots.getD k .nothing = x
    · refine ifF (ndF e) (q H1 ?_ F1)
      rw [put_still e]
      exact S1
    · refine ifT (nd e) (drop1 (m_0 (v_marks T S1 (v_var rfl)) (S1.o3 fun a => lk4 (by decide) (by decide) (by decide) (by decide)) ⟨n, L, _, rfl, S1, fun H2 S2 F2 => q H2 ?_ (F1.trans F2)⟩))
      rw [put_moved e]
      exact S2
theorem chg_moved {m : Sv.M} {a b : Nat} {x : Vl} (h : ¬ (m.rows a).getD b .nothing = x) : Sv.changeField m a b x = ({ m with rows := Sv.fset m.rows a ((m.rows a).set b x), changed := Sv.fset m.changed a true }, 1) := if_pos h
theorem chg_still {m : Sv.M} {a b : Nat} {x : Vl} (h : (m.rows a).getD b .nothing = x) : Sv.changeField m a b x = (m, 0) := if_neg (fun z => z h)
theorem rows_still {m : Sv.M} {a b : Nat} {x : Vl} (h : (m.rows a).getD b .nothing = x) : { m with rows := Sv.fset m.rows a ((m.rows a).set b x) } = m := by
  have e : Sv.fset m.rows a ((m.rows a).set b x) = m.rows := by
    funext i
    unfold Sv.fset
    split
    · rename_i z
      rw [Sv.set_getD h, z]
    · rfl
  rw [e]
def spChange (K : PySem.W.Frag) (c : Cad) : Sp := fun vs H Q _ => ∃ n L m a b v x, vs = [.ref (L 0), nV a, nV b, v] ∧ SiteAt K c n L H m ∧ a < 41 ∧ b < (m.rows a).length ∧ VAt K (off n L H) v x ∧
  ∀ H', SiteAt K c n L H' (Sv.changeField m a b x).1 → Fr n L H L H' → Q (nV (Sv.changeField m a b x).2) H'
theorem ok_change_field (F : Fun K "change_field" "Site.change_field" s_Site_change_field f fd) (T : Txt K mg c) (D_Heap_set_field : MDef P w K mg base c.Heap "set_field" ["self", "number", "field", "value"] 1 (spSetField K c)) (D_Marks_note_field : MDef P w K mg base c.Marks "note_field" ["self", "number"] 1 (spNoteF K c)) :
    FnOk P w K mg base CX0 2 f fd ["self", "number", "field", "value"] (spChange K c) := by
  refine F.ok sc_Site_change_field (fun vs H Q E h => ?_) (fun cdv A outer s H vs Q E hr h => ⟨_, (pss_cons (ps_if (pt_val (pe_md (pe_fld (pv 0) rfl) T.cHeap D_Heap_set_field (hr.mono (by decide)) (pa_cons (pv 1) (pa_cons (pv 2) (pa_cons (pv 3) pa_nil))))) (pss_cons (ps_expr (pe_md (pe_fld (pv 0) rfl) T.cMarks D_Marks_note_field (hr.mono (by decide)) (pa_cons (pv 1) pa_nil))) (pss_one (ps_ret pe_i))) pss_nil) (pss_one (ps_ret pe_i))), ?_⟩)
  · obtain ⟨n, L, m, a, b, v, x, rfl, _⟩ := h
    rfl
  · obtain ⟨n, L, m, a, b, v, x, rfl, S, ha, hb, hv, q⟩ := h
    refine seq_ifm (m_3 (v_heap T S (v_var rfl)) (S.o1 (lk4 (by decide) (by decide) (by decide) (by decide))) (v_var rfl) (v_var rfl) (v_var rfl) ⟨n, L, m, a, b, v, x, rfl, S, ha, hb, hv, fun H1 S1 F1 => ⟨_, rfl, ?_⟩⟩)
    by_cases e : (m.rows a).getD b .nothing = x
    · refine ifF (ndF e) ?_
      rw [rows_still e] at S1
      rw [chg_still e] at q
      exact q H1 S1 F1
    · rw [chg_moved e] at q
      refine ifT (nd e) (seq_drop (m_1 (v_marks T S1 (v_var rfl)) (S1.o3 fun a => lk4 (by decide) (by decide) (by decide) (by decide)) (v_var rfl) ⟨n, L, _, a, rfl, S1, ha, fun H2 S2 F2 => ?_⟩))
      exact s_ret v_c (q H2 S2 (F1.trans F2))
def spUseO (K : PySem.W.Frag) (c : Cad) : Sp := fun vs H Q _ => ∃ n L m k, vs = [.ref (L 0), nV k] ∧ SiteAt K c n L H m ∧ k < 41 ∧
  ∀ H', SiteAt K c n L H' (Sv.useObject m k) → Fr n L H L H' → Q (nV (m.uses + 1)) H'
theorem ok_use_object (F : Fun K "use_object" "Site.use_object" s_Site_use_object f fd) (T : Txt K mg c) (D_Marks_note_entry : MDef P w K mg base c.Marks "note_entry" ["self", "number"] 1 (spNoteE K c)) (D_Names_use_entry : MDef P w K mg base c.Names "use_entry" ["self", "number"] 1 (spUseE K c)) :
    FnOk P w K mg base CX0 2 f fd ["self", "number"] (spUseO K c) := by
  refine F.ok sc_Site_use_object (fun vs H Q E h => ?_) (fun cdv A outer s H vs Q E hr h => ⟨_, (pss_cons (ps_if (pt_cmpR op_eq (pe_ix ix_list (pe_fld (pe_fld (pv 0) rfl) rfl) (pv 1) (fun _ _ => rfl)) pe_i (nomark _)) (pss_one (ps_expr (pe_md (pe_fld (pv 0) rfl) T.cMarks D_Marks_note_entry (hr.mono (by decide)) (pa_cons (pv 1) pa_nil)))) pss_nil) (pss_one (ps_ret (pe_md (pe_fld (pv 0) rfl) T.cNames D_Names_use_entry (hr.mono (by decide)) (pa_cons (pv 1) pa_nil))))), ?_⟩)
  · obtain ⟨n, L, m, k, rfl, _⟩ := h
    rfl
  · obtain ⟨n, L, m, k, rfl, S, hk, q⟩ := h
    have go : ∀ (m1 : Sv.M) (H1 : Hp), SiteAt K c n L H1 m1 → Fr n L H L H1 → ({ m1 with uses := m1.uses + 1, es := Sv.fset m1.es k (m1.uses + 1) } : Sv.M) = Sv.useObject m k → m1.uses = m.uses →
        tRet (tMeth c.Names "use_entry" (spUseE K c) [] E0 (tFld K (tVar 0) "names") (tCons (tVar 1) tNil)) { nx := fun x H' => Q V.non H', rt := Q } (L2.start ["self", "number"] [.ref (L 0), nV k]) H1 := by
      intro m1 H1 S1 F1 e1 e2
      refine ret1 (m_1 (v_names T S1 (v_var rfl)) (S1.o2 (lk3 (by decide) (by decide) (by decide))) (v_var rfl) ⟨n, L, m1, k, rfl, S1, hk, fun H2 S2 F2 => ?_⟩)
      rw [e1] at S2
      rw [e2]
      exact q H2 S2 (F1.trans F2)
    refine seq_if (a_test (v_eq (v_ixN (v_es T S (v_names T S (v_var rfl))) (v_var rfl) (SqL.of S.c8) (tab_get hk)) v_c)) (fun e => ?_) (fun e => ?_)
    · have e' : m.es k = 0 := by
        have := of_decide_eq_true e
        omega
      refine drop1 (m_1 (v_marks T S (v_var rfl)) (S.o3 fun a => lk4 (by decide) (by decide) (by decide) (by decide)) (v_var rfl) ⟨n, L, m, k, rfl, S, hk, fun H1 S1 F1 => ?_⟩)
      refine go _ H1 S1 F1 ?_ rfl
      unfold Sv.useObject
      rw [if_pos e']
    · have e' : ¬ m.es k = 0 := fun z => of_decide_eq_false e (by rw [z]; rfl)
      refine go m H S Fr.refl ?_ rfl
      unfold Sv.useObject
      rw [if_neg e']
def spStamp (K : PySem.W.Frag) (c : Cad) : Sp := fun vs H Q _ => ∃ n L m a b, vs = [.ref (L 0), .int a, .int b] ∧ SiteAt K c n L H m ∧ Q (nV (Sv.stampZ m a b)) H
theorem rd_chain {σ : L2.St} {H : Hp} {te : TE} {lo hi z : Int} {tl th : TE} (h1 : Va tl σ H (.int lo)) (h2 : Va te σ H (.int z)) (h3 : Va th σ H (.int hi)) :
    Va (tChain (rI0 fun i j => .bl (decide (i ≤ j))) (rI0 fun i j => .bl (decide (i ≤ j))) tl te th) σ H (.bl (decide (lo ≤ z) && decide (z ≤ hi))) := v_chain h1 h2 h3 (fun _ q => ⟨_, _, rfl, rfl, q⟩) fun _ q => ⟨_, _, rfl, rfl, q⟩
theorem ok_stamp_of (F : Fun K "stamp_of" "Site.stamp_of" s_Site_stamp_of f fd) (T : Txt K mg c) : FnOk P w K mg base CX0 1 f fd ["self", "kind", "number"] (spStamp K c) := by
  refine F.ok sc_Site_stamp_of (fun vs H Q E h => ?_) (fun cdv A outer s H vs Q E hr h => ⟨_, (pss_cons (ps_if (PW.pt (pw_and (pt_cmpR op_eq (pv 1) (pe_gi rfl T.gOBJECT) (nomark _)) (pw_and1 (pt_chain op_le op_le pe_i (pv 2) (pe_gi rfl T.gMOST_OBJECTS))))) (pss_one (ps_ret (pe_ix ix_list (pe_fld (pe_fld (pv 0) rfl) rfl) (pv 2) (fun _ _ => rfl)))) pss_nil) (pss_cons (ps_if (PW.pt (pw_and (pt_cmpR op_ne (pv 1) (pe_gi rfl T.gOBJECT) (nomark _)) (pw_and1 (pt_chain op_le op_le pe_i (pv 2) (pe_gi rfl T.gMOST_FOREIGN))))) (pss_one (ps_ret (pe_ix ix_list (pe_fld (pe_fld (pv 0) rfl) rfl) (pv 2) (fun _ _ => rfl)))) pss_nil) (pss_one (ps_ret pe_i)))), ?_⟩)
  · obtain ⟨n, L, m, a, b, rfl, _⟩ := h
    rfl
  · obtain ⟨n, L, m, a, b, rfl, S, q⟩ := h
    unfold Sv.stampZ at q
    refine seq_ret (a_and (a_test (v_eq (v_var rfl) v_c)) (fun _ => a_test (rd_chain v_c (v_var rfl) v_c))) (fun e => ?_) (fun e => ?_)
    · have e' : a = 1 ∧ 1 ≤ b ∧ b ≤ 40 := by simpa using e
      rw [if_pos e'] at q
      exact v_ix (v_es T S (v_names T S (v_var rfl))) (v_var rfl) (SqL.of S.c8) (by omega) (tab_get (by omega)) _ q
    · have e' : ¬ (a = 1 ∧ 1 ≤ b ∧ b ≤ 40) := fun z => by
        simp [z.1, z.2.1, z.2.2] at e
      rw [if_neg e'] at q
      refine seq_ret (a_and (a_test (v_ne (v_var rfl) v_c)) (fun _ => a_test (rd_chain v_c (v_var rfl) v_c))) (fun e2 => ?_) (fun e2 => ?_)
      · have e2' : a ≠ 1 ∧ 1 ≤ b ∧ b ≤ 20 := by simpa using e2
        rw [if_pos e2'] at q
        exact v_ix (v_im T S (v_names T S (v_var rfl))) (v_var rfl) (SqL.of S.c9) (by omega) (tab_get (by omega)) _ q
      · have e2' : ¬ (a ≠ 1 ∧ 1 ≤ b ∧ b ≤ 20) := fun z => by
          simp [z.1, z.2.1, z.2.2] at e2
        rw [if_neg e2'] at q
        exact s_ret v_c q
def spHas (K : PySem.W.Frag) (c : Cad) : Sp := fun vs H Q _ => ∃ n L m b, vs = [.ref (L 0), .int b] ∧ SiteAt K c n L H m ∧ Q (.bl (Sv.hasObj m b)) H
theorem ok_has_object (F : Fun K "has_object" "Site.has_object" s_Site_has_object f fd) (T : Txt K mg c) : FnOk P w K mg base CX0 1 f fd ["self", "number"] (spHas K c) := by
  refine F.ok sc_Site_has_object (fun vs H Q E h => ?_) (fun cdv A outer s H vs Q E hr h => ⟨_, (pss_one (ps_ret (pe_and (pe_chain op_le op_le pe_i (pv 1) (pe_gi rfl T.gMOST_OBJECTS)) (pe_one (pe_ix ix_list (pe_fld (pe_fld (pv 0) rfl) rfl) (pv 1) (fun _ _ => rfl)))))), ?_⟩)
  · obtain ⟨n, L, m, b, rfl, _⟩ := h
    rfl
  · obtain ⟨n, L, m, b, rfl, S, q⟩ := h
    unfold Sv.hasObj at q
    rw [← Bool.and_assoc] at q
    refine s_ret (v_and (rd_chain v_c (v_var rfl) v_c) fun e => ?_) q
    have e' : 1 ≤ b ∧ b ≤ 40 := by simpa using e
    exact v_ix (v_living T S (v_heap T S (v_var rfl))) (v_var rfl) (SqL.of S.c7) (by omega) (tab_get (by omega))
end
end Sw
end
section
set_option maxHeartbeats 1000000
namespace Sw
open PySem PySem.Spec PyProof.Rows L2
/-! ### what __init__ makes -/
section
variable {P : Program} {w : World} {K : PySem.W.Frag} {mg : Str → Option Value} {base : Heap} {c : Cad} {f : Addr} {fd : FuncData}
theorem rep_tab (n : Nat) (v : V) : List.replicate n v = tab n fun _ => v := tab_rep n v
/-- all but p stands -/
theorem ButF.upd1 {p : Addr} {H H' : Hp} {o : HO} (e : ButF p H H') : ButF p H (upd H' p o) := fun a x ha hx => by
  rw [upd_ne ha]
  exact e a x ha hx
theorem ButF.ofSame {p : Addr} {H H1 H' : Hp} (e : ButF p H H1) (s : Same H1 H') : ButF p H H' := fun a x ha hx => s _ _ (e a x ha hx)
def spNamesInit (c : Cad) : Sp := fun vs H Q _ => ∃ p dx, vs = [.ref p] ∧ H p = some (.ins c.Names dx []) ∧
  ∀ H' a8 a9, a8 ≠ a9 → H a8 = none → H a9 = none → ButF p H H' → H' p = some (.ins c.Names dx [("uses", nV 0), ("entry_stamps", .ref a8), ("import_stamps", .ref a9)]) →
    H' a8 = some (.lst (tab 41 fun _ => nV 0)) → H' a9 = some (.lst (tab 21 fun _ => nV 0)) → Q .non H'
theorem ok_names_init (F : Fun K "__init__" "Names.__init__" s_Names_init f fd) (T : Txt K mg c) : FnOk P w K mg base CX0 1 f fd ["self"] (spNamesInit c) := by
  refine F.ok sc_Names_init (fun vs H Q E h => ?_) (fun cdv A outer s H vs Q E hr h => ⟨_, (pss_cons (ps_fld (pv 0) pe_i rfl) (pss_cons (ps_fld (pv 0) (pe_lc (own := [("at", 1)]) (g := gName 1) (by rfl) sc_Names_init.nd (pi_range1 (by rfl) T.range (pa_cons (pe_op op_add (pe_gi rfl T.gMOST_OBJECTS) pe_i) pa_nil)) (blkOk_by (N := ["self", "at"]) (sc := defScope s_Names_init) (by decide +kernel)) (fun _ _ _ _ _ => pg_name (i := 1) sc_Names_init.nd rfl (Or.inl rfl)) (fun _ _ _ _ _ => pts_nil) (fun _ _ _ _ _ => pe_i)) rfl) (pss_one (ps_fld (pv 0) (pe_lc (own := [("at", 1)]) (g := gName 1) (by rfl) sc_Names_init.nd (pi_range1 (by rfl) T.range (pa_cons (pe_op op_add (pe_gi rfl T.gMOST_FOREIGN) pe_i) pa_nil)) (blkOk_by (N := ["self", "at"]) (sc := defScope s_Names_init) (by decide +kernel)) (fun _ _ _ _ _ => pg_name (i := 1) sc_Names_init.nd rfl (Or.inl rfl)) (fun _ _ _ _ _ => pts_nil) (fun _ _ _ _ _ => pe_i)) rfl)))), ?_⟩)
  · obtain ⟨p, dx, rfl, _⟩ := h
    rfl
  · obtain ⟨p, dx, rfl, h0, q⟩ := h
    refine seq_fld ⟨_, rfl, p, c.Names, dx, [], rfl, h0, T.cNames, T.nuses, (by show 0 < 1000; decide), ?_⟩
    generalize e1 : upd H p (.ins c.Names dx (putF "uses" (.int 0) [])) = H1
    have g1 : H1 p = some (.ins c.Names dx [("uses", nV 0)]) := by
      rw [← e1, upd_same]
      rfl
    have b1 : ButF p H H1 := by
      rw [← e1]
      exact ButF.upd1 fun a x _ hx => hx
    refine seq_fld ?_
    refine lcE (iR1 (j := 41) (v_add v_c v_c) (by decide) (by decide) ?_)
    intro D8 hD8
    refine lc_const hD8 (by decide) (fun y => rfl) fun H2 s2 g2 => ?_
    refine ⟨_, rfl, p, c.Names, dx, _, rfl, s2 _ _ g1, T.cNames, T.nes, (by show 1 < 1000; decide), ?_⟩
    have n8 : H D8 = none := by
      cases z : H D8 with
      | none => rfl
      | some o =>
        by_cases zz : D8 = p
        · rw [zz, g1] at hD8
          cases hD8
        · rw [b1 _ _ zz z] at hD8
          cases hD8
    have d8p : D8 ≠ p := fun z => by
      rw [z, h0] at n8
      cases n8
    generalize e3 : upd H2 p (.ins c.Names dx (putF "entry_stamps" (.ref D8) [("uses", nV 0)])) = H3
    have g3 : H3 p = some (.ins c.Names dx [("uses", nV 0), ("entry_stamps", .ref D8)]) := by
      rw [← e3, upd_same]
      exact congrArg (fun l => some (HO.ins c.Names dx l)) (put_past (by decide))
    have k8 : H3 D8 = some (.lst (tab 41 fun _ => nV 0)) := by
      rw [← e3, upd_ne d8p, g2]
      exact congrArg (fun l => some (HO.lst l)) (rep_tab 41 _)
    have b3 : ButF p H H3 := by
      rw [← e3]
      exact (b1.ofSame s2).upd1
    refine fld1 ?_
    refine lcE (iR1 (j := 21) (v_add v_c v_c) (by decide) (by decide) ?_)
    intro D9 hD9
    refine lc_const hD9 (by decide) (fun y => rfl) fun H4 s4 g4 => ?_
    refine ⟨_, rfl, p, c.Names, dx, _, rfl, s4 _ _ g3, T.cNames, T.nim, (by show 2 < 1000; decide), ?_⟩
    have n9 : H D9 = none := by
      cases z : H D9 with
      | none => rfl
      | some o =>
        by_cases zz : D9 = p
        · rw [zz, g3] at hD9
          cases hD9
        · rw [b3 _ _ zz z] at hD9
          cases hD9
    have d9p : D9 ≠ p := fun z => by
      rw [z, h0] at n9
      cases n9
    have d89 : D8 ≠ D9 := ne_of_none k8 hD9
    refine q _ D8 D9 d89 n8 n9 (b3.ofSame s4).upd1 ?_ ?_ ?_
    · rw [upd_same]
      exact congrArg (fun l => some (HO.ins c.Names dx l)) ((put_past (by decide)).trans (congrArg _ (put_past (by decide))))
    · rw [upd_ne d8p]
      exact s4 _ _ k8
    · rw [upd_ne d9p, g4]
      exact congrArg (fun l => some (HO.lst l)) (rep_tab 21 _)
def spMarksInit (c : Cad) : Sp := fun vs H Q _ => ∃ p dx a, vs = [.ref p, .ref a] ∧ H p = some (.ins c.Marks dx []) ∧
  ∀ H' a10 a11, a10 ≠ a11 → H a10 = none → H a11 = none → ButF p H H' → H' p = some (.ins c.Marks dx [("led", .ref a), ("slots_changed", .bl false), ("changed", .ref a10), ("fresh", .ref a11)]) →
    H' a10 = some (.lst (tab 41 fun _ => .bl false)) → H' a11 = some (.lst (tab 41 fun _ => .bl false)) → Q .non H'
theorem ok_marks_init (F : Fun K "__init__" "Marks.__init__" s_Marks_init f fd) (T : Txt K mg c) : FnOk P w K mg base CX0 1 f fd ["self", "led"] (spMarksInit c) := by
  refine F.ok sc_Marks_init (fun vs H Q E h => ?_) (fun cdv A outer s H vs Q E hr h => ⟨_, (pss_cons (ps_fld (pv 0) (pv 1) rfl) (pss_cons (ps_fld (pv 0) pe_b rfl) (pss_cons (ps_fld (pv 0) (pe_lc (own := [("at", 2)]) (g := gName 2) (by rfl) sc_Marks_init.nd (pi_range1 (by rfl) T.range (pa_cons (pe_op op_add (pe_gi rfl T.gMOST_OBJECTS) pe_i) pa_nil)) (blkOk_by (N := ["self", "led", "at"]) (sc := defScope s_Marks_init) (by decide +kernel)) (fun _ _ _ _ _ => pg_name (i := 2) sc_Marks_init.nd rfl (Or.inl rfl)) (fun _ _ _ _ _ => pts_nil) (fun _ _ _ _ _ => pe_b)) rfl) (pss_one (ps_fld (pv 0) (pe_lc (own := [("at", 2)]) (g := gName 2) (by rfl) sc_Marks_init.nd (pi_range1 (by rfl) T.range (pa_cons (pe_op op_add (pe_gi rfl T.gMOST_OBJECTS) pe_i) pa_nil)) (blkOk_by (N := ["self", "led", "at"]) (sc := defScope s_Marks_init) (by decide +kernel)) (fun _ _ _ _ _ => pg_name (i := 2) sc_Marks_init.nd rfl (Or.inl rfl)) (fun _ _ _ _ _ => pts_nil) (fun _ _ _ _ _ => pe_b)) rfl))))), ?_⟩)
  · obtain ⟨p, dx, a, rfl, _⟩ := h
    rfl
  · obtain ⟨p, dx, a, rfl, h0, q⟩ := h
    refine seq_fld ⟨_, rfl, _, rfl, p, c.Marks, dx, [], rfl, h0, T.cMarks, T.nled, (by show 0 < 1000; decide), ?_⟩
    refine seq_fld ⟨_, rfl, p, c.Marks, dx, _, rfl, upd_same, T.cMarks, T.nsc, (by show 1 < 1000; decide), ?_⟩
    generalize e1 : upd (upd H p (.ins c.Marks dx (putF "led" (.ref a) []))) p (.ins c.Marks dx (putF "slots_changed" (.bl false) (putF "led" (.ref a) []))) = H1
    have g1 : H1 p = some (.ins c.Marks dx [("led", .ref a), ("slots_changed", .bl false)]) := by
      rw [← e1, upd_same]
      exact congrArg (fun l => some (HO.ins c.Marks dx l)) (put_past (by decide))
    have b1 : ButF p H H1 := by
      rw [← e1]
      exact ButF.upd1 (ButF.upd1 fun a x _ hx => hx)
    refine seq_fld ?_
    refine lcE (iR1 (j := 41) (v_add v_c v_c) (by decide) (by decide) ?_)
    intro D8 hD8
    refine lc_const hD8 (by decide) (fun y => rfl) fun H2 s2 g2 => ?_
    refine ⟨_, rfl, p, c.Marks, dx, _, rfl, s2 _ _ g1, T.cMarks, T.nchanged, (by show 2 < 1000; decide), ?_⟩
    have n8 : H D8 = none := by
      cases z : H D8 with
      | none => rfl
      | some o =>
        by_cases zz : D8 = p
        · rw [zz, g1] at hD8
          cases hD8
        · rw [b1 _ _ zz z] at hD8
          cases hD8
    have d8p : D8 ≠ p := fun z => by
      rw [z, h0] at n8
      cases n8
    generalize e3 : upd H2 p (.ins c.Marks dx (putF "changed" (.ref D8) [("led", .ref a), ("slots_changed", .bl false)])) = H3
    have g3 : H3 p = some (.ins c.Marks dx [("led", .ref a), ("slots_changed", .bl false), ("changed", .ref D8)]) := by
      rw [← e3, upd_same]
      exact congrArg (fun l => some (HO.ins c.Marks dx l)) ((put_past (by decide)).trans (congrArg _ (put_past (by decide))))
    have k8 : H3 D8 = some (.lst (tab 41 fun _ => .bl false)) := by
      rw [← e3, upd_ne d8p, g2]
      exact congrArg (fun l => some (HO.lst l)) (rep_tab 41 _)
    have b3 : ButF p H H3 := by
      rw [← e3]
      exact (b1.ofSame s2).upd1
    refine fld1 ?_
    refine lcE (iR1 (j := 41) (v_add v_c v_c) (by decide) (by decide) ?_)
    intro D9 hD9
    refine lc_const hD9 (by decide) (fun y => rfl) fun H4 s4 g4 => ?_
    refine ⟨_, rfl, p, c.Marks, dx, _, rfl, s4 _ _ g3, T.cMarks, T.nfresh, (by show 3 < 1000; decide), ?_⟩
    have n9 : H D9 = none := by
      cases z : H D9 with
      | none => rfl
      | some o =>
        by_cases zz : D9 = p
        · rw [zz, g3] at hD9
          cases hD9
        · rw [b3 _ _ zz z] at hD9
          cases hD9
    have d9p : D9 ≠ p := fun z => by
      rw [z, h0] at n9
      cases n9
    have d89 : D8 ≠ D9 := ne_of_none k8 hD9
    refine q _ D8 D9 d89 n8 n9 (b3.ofSame s4).upd1 ?_ ?_ ?_
    · rw [upd_same]
      exact congrArg (fun l => some (HO.ins c.Marks dx l)) ((put_past (by decide)).trans (congrArg _ ((put_past (by decide)).trans (congrArg _ (put_past (by decide))))))
    · rw [upd_ne d8p]
      exact s4 _ _ k8
    · rw [upd_ne d9p, g4]
      exact congrArg (fun l => some (HO.lst l)) (rep_tab 41 _)
def spHeapInit (c : Cad) : Sp := fun vs H Q _ => ∃ p dx, vs = [.ref p] ∧ H p = some (.ins c.Heap dx []) ∧
  ∀ H' a5 a6 a7 (as : List Addr), as.length = 41 → (a5 :: a6 :: a7 :: as).Nodup → (∀ a ∈ a5 :: a6 :: a7 :: as, H a = none) → ButF p H H' →
    H' p = some (.ins c.Heap dx [("slots", .ref a5), ("made", nV 0), ("rows", .ref a6), ("living", .ref a7)]) →
    H' a5 = some (.lst (List.replicate 6 (.ref c.nothing))) → H' a6 = some (.lst (as.map V.ref)) → (∀ a ∈ as, H' a = some (.lst [])) → H' a7 = some (.lst (tab 41 fun _ => .bl false)) → Q .non H'
theorem back_none {p D : Addr} {H H1 : Hp} {o : HO} (b : ButF p H H1) (g : H1 p = some o) (h : H1 D = none) : H D = none := by
  cases z : H D with
  | none => rfl
  | some x =>
    by_cases zz : D = p
    · rw [zz, g] at h
      cases h
    · rw [b _ _ zz z] at h
      cases h
theorem ok_heap_init (F : Fun K "__init__" "Heap.__init__" s_Heap_init f fd) (T : Txt K mg c) : FnOk P w K mg base CX0 1 f fd ["self"] (spHeapInit c) := by
  refine F.ok sc_Heap_init (fun vs H Q E h => ?_) (fun cdv A outer s H vs Q E hr h => ⟨_, (pss_cons (ps_fld (pv 0) (pe_lc (own := [("at", 1)]) (g := gName 1) (by rfl) sc_Heap_init.nd (pi_range1 (by rfl) T.range (pa_cons (pe_gi rfl T.gSLOT_COUNT) pa_nil)) (blkOk_by (N := ["self", "at"]) (sc := defScope s_Heap_init) (by decide +kernel)) (fun _ _ _ _ _ => pg_name (i := 1) sc_Heap_init.nd rfl (Or.inl rfl)) (fun _ _ _ _ _ => pts_nil) (fun _ _ _ _ _ => (pe_gr rfl T.gNOTHING))) rfl) (pss_cons (ps_fld (pv 0) pe_i rfl) (pss_cons (ps_fld (pv 0) (pe_lc (own := [("at", 1)]) (g := gName 1) (by rfl) sc_Heap_init.nd (pi_range1 (by rfl) T.range (pa_cons (pe_op op_add (pe_gi rfl T.gMOST_OBJECTS) pe_i) pa_nil)) (blkOk_by (N := ["self", "at"]) (sc := defScope s_Heap_init) (by decide +kernel)) (fun _ _ _ _ _ => pg_name (i := 1) sc_Heap_init.nd rfl (Or.inl rfl)) (fun _ _ _ _ _ => pts_nil) (fun _ _ _ _ _ => (pe_lst pa_nil))) rfl) (pss_one (ps_fld (pv 0) (pe_lc (own := [("at", 1)]) (g := gName 1) (by rfl) sc_Heap_init.nd (pi_range1 (by rfl) T.range (pa_cons (pe_op op_add (pe_gi rfl T.gMOST_OBJECTS) pe_i) pa_nil)) (blkOk_by (N := ["self", "at"]) (sc := defScope s_Heap_init) (by decide +kernel)) (fun _ _ _ _ _ => pg_name (i := 1) sc_Heap_init.nd rfl (Or.inl rfl)) (fun _ _ _ _ _ => pts_nil) (fun _ _ _ _ _ => pe_b)) rfl))))), ?_⟩)
  · obtain ⟨p, dx, rfl, _⟩ := h
    rfl
  · obtain ⟨p, dx, rfl, h0, q⟩ := h
    -- self.slots
    refine seq_fld ?_
    refine lcE (iR1 (j := 6) v_c (by decide) (by decide) ?_)
    intro D5 n5
    refine lc_const n5 (by decide) (fun y => rfl) fun H1 s1 k5 => ?_
    have d5p : D5 ≠ p := fun z => by
      rw [z, h0] at n5
      cases n5
    refine ⟨_, rfl, p, c.Heap, dx, _, rfl, s1 _ _ h0, T.cHeap, T.nslots, (by show 0 < 1000; decide), ?_⟩
    -- self.made = 0
    refine seq_fld ⟨_, rfl, p, c.Heap, dx, _, rfl, upd_same, T.cHeap, T.nmade, (by show 1 < 1000; decide), ?_⟩
    generalize e2 : upd (upd H1 p (.ins c.Heap dx (putF "slots" (.ref D5) []))) p (.ins c.Heap dx (putF "made" (.int 0) (putF "slots" (.ref D5) []))) = H2
    have g2 : H2 p = some (.ins c.Heap dx [("slots", .ref D5), ("made", nV 0)]) := by
      rw [← e2, upd_same]
      exact congrArg (fun l => some (HO.ins c.Heap dx l)) (put_past (by decide))
    have b2 : ButF p H H2 := by
      rw [← e2]
      exact ButF.upd1 (ButF.upd1 fun a x _ hx => s1 _ _ hx)
    have k5b : H2 D5 = some (.lst (List.replicate 6 (.ref c.nothing))) := by
      rw [← e2, upd_ne d5p, upd_ne d5p, k5]
      rfl
    -- self.rows
    refine seq_fld ?_
    refine lcE (iR1 (j := 41) (v_add v_c v_c) (by decide) (by decide) ?_)
    intro D6 n6
    refine lc_lists n6 (by decide) (fun y => rfl) fun H3 as s3 k6 la na ka => ?_
    refine ⟨_, rfl, p, c.Heap, dx, _, rfl, s3 _ _ g2, T.cHeap, T.nrows, (by show 2 < 1000; decide), ?_⟩
    have m6 := back_none b2 g2 n6
    have d6p : D6 ≠ p := fun z => by
      rw [z, h0] at m6
      cases m6
    have d56 : D5 ≠ D6 := ne_of_none k5b n6
    generalize e4 : upd H3 p (.ins c.Heap dx (putF "rows" (.ref D6) [("slots", .ref D5), ("made", nV 0)])) = H4
    have g4 : H4 p = some (.ins c.Heap dx [("slots", .ref D5), ("made", nV 0), ("rows", .ref D6)]) := by
      rw [← e4, upd_same]
      exact congrArg (fun l => some (HO.ins c.Heap dx l)) ((put_past (by decide)).trans (congrArg _ (put_past (by decide))))
    have b4 : ButF p H H4 := by
      rw [← e4]
      exact (b2.ofSame s3).upd1
    have kaN : ∀ a ∈ as, H a = none ∧ a ≠ p ∧ H4 a = some (.lst []) := fun a ha => by
      obtain ⟨q1, q2, q3⟩ := ka a ha
      have q4 := back_none b2 g2 q1
      have q5 : a ≠ p := fun z => by
        rw [z, h0] at q4
        cases q4
      refine ⟨q4, q5, ?_⟩
      rw [← e4, upd_ne q5]
      exact q3
    have k6b : H4 D6 = some (.lst (as.map V.ref)) := by
      rw [← e4, upd_ne d6p]
      exact k6
    have k5c : H4 D5 = some (.lst (List.replicate 6 (.ref c.nothing))) := by
      rw [← e4, upd_ne d5p]
      exact s3 _ _ k5b
    -- self.living
    refine fld1 ?_
    refine lcE (iR1 (j := 41) (v_add v_c v_c) (by decide) (by decide) ?_)
    intro D7 n7
    refine lc_const n7 (by decide) (fun y => rfl) fun H5 s5 k7 => ?_
    refine ⟨_, rfl, p, c.Heap, dx, _, rfl, s5 _ _ g4, T.cHeap, T.nliving, (by show 3 < 1000; decide), ?_⟩
    have m7 := back_none b4 g4 n7
    have d7p : D7 ≠ p := fun z => by
      rw [z, h0] at m7
      cases m7
    have d57 : D5 ≠ D7 := ne_of_none k5c n7
    have d67 : D6 ≠ D7 := ne_of_none k6b n7
    refine q _ D5 D6 D7 as la ?_ ?_ (b4.ofSame s5).upd1 ?_ ?_ ?_ ?_ ?_
    · rw [List.nodup_cons, List.nodup_cons, List.nodup_cons]
      refine ⟨fun z => ?_, fun z => ?_, fun z => ?_, na⟩
      · rw [List.mem_cons, List.mem_cons] at z
        rcases z with z | z | z
        · exact d56 z
        · exact d57 z
        · have := (ka _ z).1
          rw [k5b] at this
          cases this
      · rw [List.mem_cons] at z
        rcases z with z | z
        · exact d67 z
        · exact (ka _ z).2.1 rfl
      · have := (kaN _ z).2.2
        rw [n7] at this
        cases this
    · intro a ha
      rw [List.mem_cons, List.mem_cons, List.mem_cons] at ha
      rcases ha with rfl | rfl | rfl | ha
      · exact n5
      · exact m6
      · exact m7
      · exact (kaN a ha).1
    · rw [upd_same]
      exact congrArg (fun l => some (HO.ins c.Heap dx l)) ((put_past (by decide)).trans (congrArg _ ((put_past (by decide)).trans (congrArg _ (put_past (by decide))))))
    · rw [upd_ne d5p]
      exact s5 _ _ k5c
    · rw [upd_ne d6p]
      exact s5 _ _ k6b
    · intro a ha
      obtain ⟨_, q2, q3⟩ := kaN a ha
      rw [upd_ne q2]
      exact s5 _ _ q3
    · rw [upd_ne d7p, k7]
      exact congrArg (fun l => some (HO.lst l)) (rep_tab 41 _)
end
end Sw
end
section
set_option maxHeartbeats 1000000
namespace Sw
open PySem PySem.Spec PyProof.Rows L2
/-! ### a new site; a survey kept -/
section
variable {P : Program} {w : World} {K : PySem.W.Frag} {mg : Str → Option Value} {base : Heap} {c : Cad} {f : Addr} {fd : FuncData}
theorem mk_0 {C : Addr} {sp : Sp} {σ : L2.St} {H : Hp} {Q : VK} (h : ∀ a dx, H a = none → H dx = none → dx ≠ a → sp [.ref a] (upd (upd H dx (.own a)) a (.ins C dx [])) (fun v H2 => v = .non ∧ Q (.ref a) H2) E0) : tMake C sp [] E0 tNil σ H Q := h
theorem mk_1 {C : Addr} {sp : Sp} {ta : TE} {σ : L2.St} {H : Hp} {Q : VK} (h : ta σ H fun x H1 => ∀ a dx, H1 a = none → H1 dx = none → dx ≠ a → sp [.ref a, x] (upd (upd H1 dx (.own a)) a (.ins C dx [])) (fun v H2 => v = .non ∧ Q (.ref a) H2) E0) :
    tMake C sp [] E0 (tCons ta tNil) σ H Q := h
/-- different addresses, all there -/
def GL (l : List Addr) (H : Hp) : Prop := l.Nodup ∧ ∀ a ∈ l, ∃ o, H a = some o
theorem GL.keep {l : List Addr} {H H' : Hp} (g : GL l H) (k : ∀ b o, H b = some o → ∃ o', H' b = some o') : GL l H' := ⟨g.1, fun a ha => by
  obtain ⟨o, h⟩ := g.2 a ha
  exact k a o h⟩
theorem GL.more {l new : List Addr} {H H' : Hp} (g : GL l H) (k : ∀ b o, H b = some o → ∃ o', H' b = some o') (n : new.Nodup) (h : ∀ a ∈ new, H a = none ∧ ∃ o, H' a = some o) : GL (l ++ new) H' := by
  refine ⟨?_, fun a ha => ?_⟩
  · rw [List.nodup_append]
    refine ⟨g.1, n, fun a ha b hb e => ?_⟩
    obtain ⟨o, q⟩ := g.2 a ha
    have := (h b hb).1
    rw [← e, q] at this
    cases this
  · rcases List.mem_append.mp ha with ha | ha
    · exact (g.keep k).2 a ha
    · exact (h a ha).2
theorem kp_same {H H' : Hp} (e : Same H H') : ∀ b o, H b = some o → ∃ o', H' b = some o' := fun b o h => ⟨o, e b o h⟩
theorem kp_upd {H : Hp} {p : Addr} {x : HO} : ∀ b o, H b = some o → ∃ o', (upd H p x) b = some o' := fun b o h => by
  by_cases e : b = p
  · rw [e, upd_same]
    exact ⟨_, rfl⟩
  · rw [upd_ne e]
    exact ⟨o, h⟩
theorem ButF.tr {p : Addr} {H H1 H' : Hp} (a : ButF p H H1) (b : ButF p H1 H') : ButF p H H' := fun x o hx h => b x o hx (a x o hx h)
theorem ButF.of {p : Addr} {H H' : Hp} (e : Same H H') : ButF p H H' := fun x o _ h => e x o h
theorem ButF.up {p : Addr} {H : Hp} {o : HO} : ButF p H (upd H p o) := fun x y hx h => by
  rw [upd_ne hx]
  exact h
/-- where the i-th place lies in the order of making; and back -/
def pix (i : Nat) : Nat := if i = 0 then 0 else if i = 1 then 1 else if i = 2 then 46 else if i = 3 then 91 else if i = 4 then 94 else if i ≤ 7 then i - 3 else if i = 8 then 47 else if i = 9 then 48 else if i = 10 then 92 else if i = 11 then 93 else i - 7
def rix (j : Nat) : Nat := if j = 0 then 0 else if j = 1 then 1 else if j ≤ 4 then j + 3 else if j < 46 then j + 7 else if j = 46 then 2 else if j = 47 then 8 else if j = 48 then 9 else if j < 91 then 100 else if j = 91 then 3 else if j = 92 then 10 else if j = 93 then 11 else if j = 94 then 4 else 100
theorem rix_pix : ∀ i, i < 53 → rix (pix i) = i := by decide
theorem pix_row (i : Nat) : pix (i + 12) = i + 5 := by
  unfold pix
  rw [if_neg (by omega), if_neg (by omega), if_neg (by omega), if_neg (by omega), if_neg (by omega), if_neg (by omega), if_neg (by omega), if_neg (by omega), if_neg (by omega), if_neg (by omega)]
  omega
def spSiteInit (K : PySem.W.Frag) (c : Cad) : Sp := fun vs H Q _ => ∃ p dx, vs = [.ref p] ∧ H p = some (.ins c.Site dx []) ∧
  ∀ H' L, L 0 = p → SiteAt K c 53 L H' Sv.M.start → ButF p H H' → (∀ i, 0 < i → i < 53 → H (L i) = none) → Q .non H'
theorem ok_site_init (F : Fun K "__init__" "Site.__init__" s_Site_init f fd) (T : Txt K mg c) (D_Heap_init : KDef P w K mg base "Heap" c.Heap ["self"] 1 (spHeapInit c)) (D_Names_init : KDef P w K mg base "Names" c.Names ["self"] 1 (spNamesInit c))
    (D_Marks_init : KDef P w K mg base "Marks" c.Marks ["self", "led"] 1 (spMarksInit c)) : FnOk P w K mg base CX0 3 f fd ["self"] (spSiteInit K c) := by
  refine F.ok sc_Site_init (fun vs H Q E h => ?_) (fun cdv A outer s H vs Q E hr h => ⟨_, (pss_cons (ps_fld (pv 0) (pe_kd0 D_Heap_init (hr.mono (by decide)) rfl) rfl) (pss_cons (ps_fld (pv 0) (pe_kd0 D_Names_init (hr.mono (by decide)) rfl) rfl) (pss_cons (ps_fld (pv 0) (pe_kd D_Marks_init (hr.mono (by decide)) rfl (pa_cons (pe_lc (own := [("at", 1)]) (g := gName 1) (by rfl) sc_Site_init.nd (pi_range1 (by rfl) T.range (pa_cons (pe_op op_add (pe_gi rfl T.gMOST_OBJECTS) pe_i) pa_nil)) (blkOk_by (N := ["self", "at"]) (sc := defScope s_Site_init) (by decide +kernel)) (fun _ _ _ _ _ => pg_name (i := 1) sc_Site_init.nd rfl (Or.inl rfl)) (fun _ _ _ _ _ => pts_nil) (fun _ _ _ _ _ => (pe_lst pa_nil))) pa_nil)) rfl) (pss_one (ps_fld (pv 0) (pe_lst pa_nil) rfl))))), ?_⟩)
  · obtain ⟨p, dx, rfl, _⟩ := h
    rfl
  · obtain ⟨p, dx, rfl, h0, q⟩ := h
    have G0 : GL [p] H := ⟨by simp, fun a ha => by
      rw [List.mem_singleton] at ha
      rw [ha]
      exact ⟨_, h0⟩⟩
    -- self.heap = Heap()
    refine seq_fld (mk_0 fun x1 dx1 nx1 nd1 ne1 => ⟨x1, dx1, rfl, upd_same, fun H1 a5 a6 a7 as la na ka b1 g1 k5 k6 kr k7 => ⟨rfl, ?_⟩⟩)
    have s1 : Same H H1 := Same.made nx1 nd1 fun b o h ne => b1 b o ne h
    have kaH : ∀ a ∈ a5 :: a6 :: a7 :: as, H a = none := fun a ha => by
      have h := ka a ha
      by_cases e1 : a = x1
      · rw [e1]
        exact nx1
      · by_cases e2 : a = dx1
        · rw [e2]
          exact nd1
        · rw [upd_ne e1, upd_ne e2] at h
          exact h
    have x1n : ∀ a ∈ a5 :: a6 :: a7 :: as, x1 ≠ a := fun a ha e => by
      have h := ka a ha
      rw [← e, upd_same] at h
      cases h
    have G1 : GL ([p] ++ (x1 :: a5 :: a6 :: a7 :: as)) H1 := by
      refine G0.more (kp_same s1) ?_ fun a ha => ?_
      · rw [List.nodup_cons]
        exact ⟨fun z => x1n _ z rfl, na⟩
      · rcases List.mem_cons.mp ha with rfl | ha
        · exact ⟨nx1, _, g1⟩
        · refine ⟨kaH a ha, ?_⟩
          rw [List.mem_cons, List.mem_cons, List.mem_cons] at ha
          rcases ha with rfl | rfl | rfl | ha
          · exact ⟨_, k5⟩
          · exact ⟨_, k6⟩
          · exact ⟨_, k7⟩
          · exact ⟨_, kr a ha⟩
    refine ⟨_, rfl, p, c.Site, dx, _, rfl, s1 _ _ h0, T.cSite, T.nheap, (by show 0 < 1000; decide), ?_⟩
    generalize e2 : upd H1 p (.ins c.Site dx (putF "heap" (.ref x1) [])) = H2
    have g2 : H2 p = some (.ins c.Site dx [("heap", .ref x1)]) := by
      rw [← e2, upd_same]
      rfl
    have B12 : ButF p H1 H2 := by
      rw [← e2]
      exact ButF.up
    have G2 := G1.keep (H' := H2) (by rw [← e2]; exact kp_upd)
    -- self.names = Names()
    refine seq_fld (mk_0 fun x2 dx2 nx2 nd2 ne2 => ⟨x2, dx2, rfl, upd_same, fun H3 a8 a9 d89 n8 n9 b3 g3 k8 k9 => ⟨rfl, ?_⟩⟩)
    have s3 : Same H2 H3 := Same.made nx2 nd2 fun b o h ne => b3 b o ne h
    have fr2 : ∀ a, (upd (upd H2 dx2 (.own x2)) x2 (.ins c.Names dx2 [])) a = none → H2 a = none ∧ x2 ≠ a := fun a h => by
      have e1 : a ≠ x2 := fun z => by
        rw [z, upd_same] at h
        cases h
      have e2 : a ≠ dx2 := fun z => by
        rw [upd_ne e1, z, upd_same] at h
        cases h
      rw [upd_ne e1, upd_ne e2] at h
      exact ⟨h, fun z => e1 z.symm⟩
    have G3 : GL ([p] ++ (x1 :: a5 :: a6 :: a7 :: as) ++ [x2, a8, a9]) H3 := by
      refine G2.more (kp_same s3) ?_ fun a ha => ?_
      · simp [(fr2 _ n8).2, (fr2 _ n9).2, d89]
      · rw [List.mem_cons, List.mem_cons, List.mem_singleton] at ha
        rcases ha with rfl | rfl | rfl
        · exact ⟨nx2, _, g3⟩
        · exact ⟨(fr2 _ n8).1, _, k8⟩
        · exact ⟨(fr2 _ n9).1, _, k9⟩
    refine ⟨_, rfl, p, c.Site, dx, _, rfl, s3 _ _ g2, T.cSite, T.nnames, (by show 1 < 1000; decide), ?_⟩
    generalize e4 : upd H3 p (.ins c.Site dx (putF "names" (.ref x2) [("heap", .ref x1)])) = H4
    have g4 : H4 p = some (.ins c.Site dx [("heap", .ref x1), ("names", .ref x2)]) := by
      rw [← e4, upd_same]
      exact congrArg (fun l => some (HO.ins c.Site dx l)) (put_past (by decide))
    have B34 : ButF p H3 H4 := by
      rw [← e4]
      exact ButF.up
    have G4 := G3.keep (H' := H4) (by rw [← e4]; exact kp_upd)
    -- self.marks = Marks([[] for at in range(MOST_OBJECTS + 1)])
    refine seq_fld (mk_1 ?_)
    refine lcE (iR1 (j := 41) (v_add v_c v_c) (by decide) (by decide) ?_)
    intro D nD
    refine lc_lists nD (by decide) (fun y => rfl) fun H5 as2 s5 kD la2 na2 ka2 => ?_
    have G5 : GL ([p] ++ (x1 :: a5 :: a6 :: a7 :: as) ++ [x2, a8, a9] ++ (D :: as2)) H5 := by
      refine G4.more (kp_same s5) ?_ fun a ha => ?_
      · rw [List.nodup_cons]
        exact ⟨fun z => (ka2 _ z).2.1 rfl, na2⟩
      · rcases List.mem_cons.mp ha with rfl | ha
        · exact ⟨nD, _, kD⟩
        · exact ⟨(ka2 a ha).1, _, (ka2 a ha).2.2⟩
    intro x3 dx3 nx3 nd3 ne3
    refine ⟨x3, dx3, D, rfl, upd_same, fun H6 a10 a11 d1011 n10 n11 b6 g6 k10 k11 => ⟨rfl, ?_⟩⟩
    have s6 : Same H5 H6 := Same.made nx3 nd3 fun b o h ne => b6 b o ne h
    have fr5 : ∀ a, (upd (upd H5 dx3 (.own x3)) x3 (.ins c.Marks dx3 [])) a = none → H5 a = none ∧ x3 ≠ a := fun a h => by
      have e1 : a ≠ x3 := fun z => by
        rw [z, upd_same] at h
        cases h
      have e2 : a ≠ dx3 := fun z => by
        rw [upd_ne e1, z, upd_same] at h
        cases h
      rw [upd_ne e1, upd_ne e2] at h
      exact ⟨h, fun z => e1 z.symm⟩
    have G6 : GL ([p] ++ (x1 :: a5 :: a6 :: a7 :: as) ++ [x2, a8, a9] ++ (D :: as2) ++ [x3, a10, a11]) H6 := by
      refine G5.more (kp_same s6) ?_ fun a ha => ?_
      · simp [(fr5 _ n10).2, (fr5 _ n11).2, d1011]
      · rw [List.mem_cons, List.mem_cons, List.mem_singleton] at ha
        rcases ha with rfl | rfl | rfl
        · exact ⟨nx3, _, g6⟩
        · exact ⟨(fr5 _ n10).1, _, k10⟩
        · exact ⟨(fr5 _ n11).1, _, k11⟩
    refine ⟨_, rfl, p, c.Site, dx, _, rfl, s6 _ _ (s5 _ _ g4), T.cSite, T.nmarks, (by show 2 < 1000; decide), ?_⟩
    generalize e7 : upd H6 p (.ins c.Site dx (putF "marks" (.ref x3) [("heap", .ref x1), ("names", .ref x2)])) = H7
    have g7 : H7 p = some (.ins c.Site dx [("heap", .ref x1), ("names", .ref x2), ("marks", .ref x3)]) := by
      rw [← e7, upd_same]
      exact congrArg (fun l => some (HO.ins c.Site dx l)) ((put_past (by decide)).trans (congrArg _ (put_past (by decide))))
    have B67 : ButF p H6 H7 := by
      rw [← e7]
      exact ButF.up
    have G7 := G6.keep (H' := H7) (by rw [← e7]; exact kp_upd)
    -- self.surveys = []
    refine fld1 (n_nil fun a4 n4 => ?_)
    have s8 := same_upd (o := .lst []) n4
    have G8 := G7.more (kp_same s8) (new := [a4]) (by simp) (fun a ha => by
      rw [List.mem_singleton] at ha
      rw [ha]
      exact ⟨n4, _, upd_same⟩)
    have k4 : (upd H7 a4 (.lst [])) a4 = some (.lst []) := upd_same
    generalize upd H7 a4 (.lst []) = H8 at s8 G8 k4
    refine ⟨_, rfl, p, c.Site, dx, _, rfl, s8 _ _ g7, T.cSite, T.nsurveys, (by show 3 < 1000; decide), ?_⟩
    generalize e9 : upd H8 p (.ins c.Site dx (putF "surveys" (.ref a4) [("heap", .ref x1), ("names", .ref x2), ("marks", .ref x3)])) = H9
    have g9 : H9 p = some (.ins c.Site dx [("heap", .ref x1), ("names", .ref x2), ("marks", .ref x3), ("surveys", .ref a4)]) := by
      rw [← e9, upd_same]
      exact congrArg (fun l => some (HO.ins c.Site dx l)) ((put_past (by decide)).trans (congrArg _ ((put_past (by decide)).trans (congrArg _ (put_past (by decide))))))
    have B89 : ButF p H8 H9 := by
      rw [← e9]
      exact ButF.up
    have B69 : ButF p H6 H9 := B67.tr ((ButF.of s8).tr B89)
    have B59 : ButF p H5 H9 := (ButF.of s6).tr B69
    have B39 : ButF p H3 H9 := B34.tr ((ButF.of s5).tr B59)
    have B19 : ButF p H1 H9 := B12.tr ((ButF.of s3).tr B39)
    have B09 : ButF p H H9 := (ButF.of s1).tr B19
    -- the places
    obtain ⟨l, el⟩ : ∃ l, l = p :: x1 :: a5 :: a6 :: a7 :: (as ++ (x2 :: a8 :: a9 :: D :: (as2 ++ [x3, a10, a11, a4]))) := ⟨_, rfl⟩
    have eG : [p] ++ (x1 :: a5 :: a6 :: a7 :: as) ++ [x2, a8, a9] ++ (D :: as2) ++ [x3, a10, a11] ++ [a4] = l := by
      rw [el]
      simp
    rw [eG] at G8
    have ll : l.length = 95 := by
      rw [el]
      simp [la, la2]
    have hL : ∀ i, i < 53 → l[pix i]? = some ((l[pix i]?).getD 0) := fun i hi => by
      have : pix i < 95 := by
        revert i
        decide
      rw [List.getElem?_eq_getElem (by omega)]
      rfl
    obtain ⟨L, eL⟩ : ∃ L : Nat → Addr, L = fun i => (l[pix i]?).getD 0 := ⟨_, rfl⟩
    have hL' : ∀ i, i < 53 → l[pix i]? = some (L i) := fun i hi => by
      rw [eL]
      exact hL i hi
    have val : ∀ i a, i < 53 → l[pix i]? = some a → L i = a := fun i a hi h => Option.some.inj ((hL' i hi).symm.trans h)
    have e0 : L 0 = p := val 0 p (by decide) (by rw [el]; rfl)
    have e1 : L 1 = x1 := val 1 x1 (by decide) (by rw [el]; rfl)
    have e5 : L 5 = a5 := val 5 a5 (by decide) (by rw [el]; rfl)
    have e6 : L 6 = a6 := val 6 a6 (by decide) (by rw [el]; rfl)
    have e7' : L 7 = a7 := val 7 a7 (by decide) (by rw [el]; rfl)
    have at2 : ∀ i, i < 4 → l[46 + i]? = [x2, a8, a9, D][i]? := fun i hi => by
      rw [el, show 46 + i = (41 + i) + 1 + 1 + 1 + 1 + 1 by omega]
      simp only [List.getElem?_cons_succ]
      rw [List.getElem?_append_right (by omega), show 41 + i - as.length = i by omega]
      rcases i with _ | _ | _ | _ | i
      · rfl
      · rfl
      · rfl
      · rfl
      · omega
    have at3 : ∀ i, i < 4 → l[91 + i]? = [x3, a10, a11, a4][i]? := fun i hi => by
      rw [el, show 91 + i = (86 + i) + 1 + 1 + 1 + 1 + 1 by omega]
      simp only [List.getElem?_cons_succ]
      rw [List.getElem?_append_right (by omega), show 86 + i - as.length = (41 + i) + 1 + 1 + 1 + 1 by omega]
      simp only [List.getElem?_cons_succ]
      rw [List.getElem?_append_right (by omega), show 41 + i - as2.length = i by omega]
    have e2' : L 2 = x2 := val 2 x2 (by decide) (at2 0 (by decide))
    have e8 : L 8 = a8 := val 8 a8 (by decide) (at2 1 (by decide))
    have e9' : L 9 = a9 := val 9 a9 (by decide) (at2 2 (by decide))
    have e3 : L 3 = x3 := val 3 x3 (by decide) (at3 0 (by decide))
    have e10 : L 10 = a10 := val 10 a10 (by decide) (at3 1 (by decide))
    have e11 : L 11 = a11 := val 11 a11 (by decide) (at3 2 (by decide))
    have e4' : L 4 = a4 := val 4 a4 (by decide) (at3 3 (by decide))
    have eR : ∀ i, i < 41 → as[i]? = some (L (i + 12)) := fun i hi => by
      have h := hL' (i + 12) (by omega)
      rw [pix_row, el, show i + 5 = i + 1 + 1 + 1 + 1 + 1 by omega] at h
      simp only [List.getElem?_cons_succ] at h
      rw [List.getElem?_append_left (by omega)] at h
      exact h
    have inj : ∀ i j, i < 53 → j < 53 → L i = L j → i = j := fun i j hi hj e => by
      have h1 := hL' i hi
      have h2 := hL' j hj
      rw [e] at h1
      have h3 := nd_ix G8.1 h1 h2
      rw [← rix_pix i hi, ← rix_pix j hj, h3]
    -- what is left of the list of lists
    have outD : ∀ j b, 49 ≤ j → j < 91 → l[j]? = some b → ¬ Foot 53 L b := fun j b h1 h2 h3 ⟨i, hi, e⟩ => by
      rw [e] at h3
      have h4 := nd_ix G8.1 h3 (hL' i hi)
      have h5 := rix_pix i hi
      rw [← h4] at h5
      unfold rix at h5
      rw [if_neg (by omega), if_neg (by omega), if_neg (by omega), if_neg (by omega), if_neg (by omega), if_neg (by omega), if_neg (by omega), if_pos (by omega)] at h5
      omega
    have atD : l[49]? = some D := at2 3 (by decide)
    have at4 : ∀ i, i < 41 → l[50 + i]? = as2[i]? := fun i hi => by
      rw [el, show 50 + i = (45 + i) + 1 + 1 + 1 + 1 + 1 by omega]
      simp only [List.getElem?_cons_succ]
      rw [List.getElem?_append_right (by omega), show 45 + i - as.length = i + 1 + 1 + 1 + 1 by omega]
      simp only [List.getElem?_cons_succ]
      rw [List.getElem?_append_left (by omega)]
    have npl : ∀ a j, 0 < j → l[j]? = some a → a ≠ p := fun a j hj h e => by
      have h0 : l[0]? = some p := by rw [el]; rfl
      rw [e] at h
      have := nd_ix G8.1 h h0
      omega
    have np : ∀ i, 0 < i → i < 53 → L i ≠ p := fun i h1 h2 e => by
      have := inj i 0 h2 (by decide) (by rw [e, e0])
      omega
    have rowsE : as.map V.ref = tab 41 fun i => .ref (L (i + 12)) := by
      refine List.ext_getElem? fun i => ?_
      by_cases hi : i < 41
      · rw [tab_get hi, List.getElem?_map, eR i hi]
        rfl
      · rw [List.getElem?_eq_none (by rw [List.length_map]; omega), List.getElem?_eq_none (by rw [tab_len]; omega)]
    refine q H9 L e0 ⟨Nat.le_refl _, inj, fun i hi => ?_, fun i h1 h2 => by omega⟩ B09 fun i h1 h2 => ?_
    · exact match i, hi with
      | 0, _ => by
        refine ⟨dx, ?_⟩
        rw [e0, e1, e2', e3, e4']
        exact g9
      | 1, _ => by
        refine ⟨dx1, ?_⟩
        rw [e5, e6, e7', e1]
        exact B19 _ _ (by rw [← e1]; exact np 1 (by decide) (by decide)) g1
      | 2, _ => by
        refine ⟨dx2, ?_⟩
        rw [e8, e9', e2']
        exact B39 _ _ (by rw [← e2']; exact np 2 (by decide) (by decide)) g3
      | 3, _ => by
        refine ⟨dx3, D, ?_, as2.map V.ref, off_some.mpr ⟨B59 _ _ (npl _ 49 (by decide) atD) kD, outD 49 D (by decide) (by decide) atD⟩, by rw [List.length_map]; exact la2, fun i hi => ?_⟩
        · rw [e10, e11, e3]
          exact B69 _ _ (by rw [← e3]; exact np 3 (by decide) (by decide)) g6
        · have hb : as2[i]? = some as2[i] := List.getElem?_eq_getElem (by omega)
          have hb2 := (at4 i hi).trans hb
          refine ⟨as2[i], ?_, off_some.mpr ⟨B59 _ _ (npl _ _ (by omega) hb2) (ka2 _ (List.mem_of_getElem? hb)).2.2, outD _ _ (by omega) (by omega) hb2⟩⟩
          rw [List.getElem?_map, hb]
          rfl
      | 4, _ => by
        refine ⟨[], ?_, Pt.nil⟩
        rw [e4']
        exact B89 _ _ (by rw [← e4']; exact np 4 (by decide) (by decide)) k4
      | 5, _ => by
        refine ⟨_, ?_, Pt.rep (nothing_at T _) 6⟩
        rw [e5]
        exact B19 _ _ (by rw [← e5]; exact np 5 (by decide) (by decide)) k5
      | 6, _ => by
        show H9 (L 6) = _
        rw [e6, ← rowsE]
        exact B19 _ _ (by rw [← e6]; exact np 6 (by decide) (by decide)) k6
      | 7, _ => by
        show H9 (L 7) = _
        rw [e7']
        exact B19 _ _ (by rw [← e7']; exact np 7 (by decide) (by decide)) k7
      | 8, _ => by
        show H9 (L 8) = _
        rw [e8]
        exact B39 _ _ (by rw [← e8]; exact np 8 (by decide) (by decide)) k8
      | 9, _ => by
        show H9 (L 9) = _
        rw [e9']
        exact B39 _ _ (by rw [← e9']; exact np 9 (by decide) (by decide)) k9
      | 10, _ => by
        show H9 (L 10) = _
        rw [e10]
        exact B69 _ _ (by rw [← e10]; exact np 10 (by decide) (by decide)) k10
      | 11, _ => by
        show H9 (L 11) = _
        rw [e11]
        exact B69 _ _ (by rw [← e11]; exact np 11 (by decide) (by decide)) k11
      | k + 12, hi => by
        refine ⟨[], B19 _ _ (np _ (by omega) hi) (kr _ (List.mem_of_getElem? (eR k (by omega)))), Pt.nil⟩
    · -- what the site owns is new
      cases z : H (L i) with
      | none => rfl
      | some o =>
        have N : ∀ Hk a, ButF p H Hk → Hk a = none → a ≠ p → H a = none := fun Hk a b n ne => by
          cases y : H a with
          | none => rfl
          | some o' =>
            rw [b a o' ne y] at n
            cases n
        have bH2 : ButF p H H2 := (ButF.of s1).tr B12
        have bH4 : ButF p H H4 := bH2.tr ((ButF.of s3).tr B34)
        have bH5 : ButF p H H5 := bH4.tr (ButF.of s5)
        have bH7 : ButF p H H7 := bH5.tr ((ButF.of s6).tr B67)
        have bad : H (L i) = none := by
          have ne := np i h1 h2
          exact match i, h1, h2, ne with
          | 0, h1, _, _ => by omega
          | 1, _, _, _ => by rw [e1]; exact nx1
          | 2, _, _, ne => by rw [e2'] at ne ⊢; exact N _ _ bH2 nx2 ne
          | 3, _, _, ne => by rw [e3] at ne ⊢; exact N _ _ bH5 nx3 ne
          | 4, _, _, ne => by rw [e4'] at ne ⊢; exact N _ _ bH7 n4 ne
          | 5, _, _, _ => by rw [e5]; exact kaH _ (by simp)
          | 6, _, _, _ => by rw [e6]; exact kaH _ (by simp)
          | 7, _, _, _ => by rw [e7']; exact kaH _ (by simp)
          | 8, _, _, ne => by rw [e8] at ne ⊢; exact N _ _ bH2 (fr2 _ n8).1 ne
          | 9, _, _, ne => by rw [e9'] at ne ⊢; exact N _ _ bH2 (fr2 _ n9).1 ne
          | 10, _, _, ne => by rw [e10] at ne ⊢; exact N _ _ bH5 (fr5 _ n10).1 ne
          | 11, _, _, ne => by rw [e11] at ne ⊢; exact N _ _ bH5 (fr5 _ n11).1 ne
          | k + 12, _, h2, _ => kaH _ (List.mem_cons_of_mem _ (List.mem_cons_of_mem _ (List.mem_cons_of_mem _ (List.mem_of_getElem? (eR k (by omega))))))
        rw [z] at bad
        cases bad
end
end Sw
end
section
set_option maxHeartbeats 1000000
namespace Sw
open PySem PySem.Spec PyProof.Rows L2
section
variable {K : PySem.W.Frag} {mg : Str → Option Value} {c : Cad} {n : Nat} {L : Nat → Addr} {H H1 : Hp} {m : Sv.M}
/-- new marks -/
def mkL (L : Nat → Addr) (x a10 a11 : Addr) : Nat → Addr := Sv.fset (Sv.fset (Sv.fset L 3 x) 10 a10) 11 a11
theorem SiteAt.newMarks (S : SiteAt K c n L H m) {x dx dx0 a a10 a11 : Addr} {led : Nat → List Nat} (e : Same H H1) (d1 : x ≠ a10) (d2 : x ≠ a11) (d3 : a10 ≠ a11) (nx : H x = none) (n10 : H a10 = none) (n11 : H a11 = none)
    (hx : H1 x = some (.ins c.Marks dx [("led", .ref a), ("slots_changed", .bl false), ("changed", .ref a10), ("fresh", .ref a11)])) (h10 : H1 a10 = some (.lst (tab 41 fun _ => .bl false))) (h11 : H1 a11 = some (.lst (tab 41 fun _ => .bl false)))
    (hl : LedAt (off n L H) a led) :
    SiteAt K c n (mkL L x a10 a11) (upd H1 (L 0) (.ins c.Site dx0 [("heap", .ref (L 1)), ("names", .ref (L 2)), ("marks", .ref x), ("surveys", .ref (L 4))])) { m with led := led, sc := false, changed := fun _ => false, fresh := fun _ => false } ∧
    Fr n L H (mkL L x a10 a11) (upd H1 (L 0) (.ins c.Site dx0 [("heap", .ref (L 1)), ("names", .ref (L 2)), ("marks", .ref x), ("surveys", .ref (L 4))])) := by
  have hn := S.many
  have new : ∀ p, H p = none → ∀ i, i < n → p ≠ L i := fun p hp i hi z => S.new hp ⟨i, hi, z⟩
  have l3 : mkL L x a10 a11 3 = x := by
    unfold mkL
    rw [Sv.fset_ne (by decide), Sv.fset_ne (by decide), Sv.fset_same]
  have l10 : mkL L x a10 a11 10 = a10 := by
    unfold mkL
    rw [Sv.fset_ne (by decide), Sv.fset_same]
  have l11 : mkL L x a10 a11 11 = a11 := by
    unfold mkL
    rw [Sv.fset_same]
  have fne : ∀ i, i ≠ 3 → i ≠ 10 → i ≠ 11 → mkL L x a10 a11 i = L i := fun i q1 q2 q3 => by
    unfold mkL
    rw [Sv.fset_ne q3, Sv.fset_ne q2, Sv.fset_ne q1]
  generalize eo : HO.ins c.Site dx0 [(("heap" : Str), V.ref (L 1)), ("names", .ref (L 2)), ("marks", .ref x), ("surveys", .ref (L 4))] = o
  generalize mkL L x a10 a11 = L' at l3 l10 l11 fne
  have at0 : (upd H1 (L 0) o) (L 0) = some o := upd_same
  have oth : ∀ i, i < n → i ≠ 0 → (upd H1 (L 0) o) (L i) = H (L i) := fun i hi h6 => by
    rw [upd_ne fun z => h6 (S.inj i 0 hi (by omega) z)]
    obtain ⟨y, hy⟩ := S.there hi
    rw [hy]
    exact e _ _ hy
  have cases3 : ∀ i, i = 3 ∨ i = 10 ∨ i = 11 ∨ (i ≠ 3 ∧ i ≠ 10 ∧ i ≠ 11) := fun i => by omega
  have none3 : ∀ i, (i = 3 ∨ i = 10 ∨ i = 11) → H (L' i) = none := fun i h => by
    rcases h with rfl | rfl | rfl
    · rw [l3]; exact nx
    · rw [l10]; exact n10
    · rw [l11]; exact n11
  have ho : Same (off n L H) (off n L' (upd H1 (L 0) o)) := fun b y hb => by
    obtain ⟨h1, h2⟩ := off_some.mp hb
    have hb0 : b ≠ L 0 := fun z => h2 ⟨0, by omega, z⟩
    refine off_some.mpr ⟨?_, fun ⟨i, hi, z⟩ => ?_⟩
    · rw [upd_ne hb0]
      exact e _ _ h1
    · by_cases q : i = 3 ∨ i = 10 ∨ i = 11
      · have := none3 i q
        rw [← z, h1] at this
        cases this
      · rw [fne i (by omega) (by omega) (by omega)] at z
        exact h2 ⟨i, hi, z⟩
  refine ⟨⟨hn, fun i j hi hj z => ?_, fun i hi => ?_, fun i h1 h2 => ?_⟩, ⟨ho, fun i h1 h2 => ⟨fne i (by omega) (by omega) (by omega), oth i h2 (by omega)⟩, fne 0 (by decide) (by decide) (by decide)⟩⟩
  · by_cases q : i = 3 ∨ i = 10 ∨ i = 11
    · by_cases r : j = 3 ∨ j = 10 ∨ j = 11
      · rcases q with rfl | rfl | rfl <;> rcases r with rfl | rfl | rfl <;> first
          | rfl
          | (rw [l3, l10] at z; exact absurd z d1)
          | (rw [l3, l11] at z; exact absurd z d2)
          | (rw [l10, l3] at z; exact absurd z.symm d1)
          | (rw [l10, l11] at z; exact absurd z d3)
          | (rw [l11, l3] at z; exact absurd z.symm d2)
          | (rw [l11, l10] at z; exact absurd z.symm d3)
      · have h1 := none3 i q
        rw [fne j (by omega) (by omega) (by omega)] at z
        exact absurd z (new _ h1 j hj)
    · by_cases r : j = 3 ∨ j = 10 ∨ j = 11
      · have h1 := none3 j r
        rw [fne i (by omega) (by omega) (by omega)] at z
        exact absurd z.symm (new _ h1 i hi)
      · rw [fne i (by omega) (by omega) (by omega), fne j (by omega) (by omega) (by omega)] at z
        exact S.inj i j hi hj z
  · have l1 := fne 1 (by decide) (by decide) (by decide)
    have l2 := fne 2 (by decide) (by decide) (by decide)
    have l4 := fne 4 (by decide) (by decide) (by decide)
    have l5 := fne 5 (by decide) (by decide) (by decide)
    have l6 := fne 6 (by decide) (by decide) (by decide)
    have l7 := fne 7 (by decide) (by decide) (by decide)
    have l8 := fne 8 (by decide) (by decide) (by decide)
    have l9 := fne 9 (by decide) (by decide) (by decide)
    have l0 := fne 0 (by decide) (by decide) (by decide)
    have n0 : ∀ p, H p = none → p ≠ L 0 := fun p hp => new p hp 0 (by omega)
    exact match i, hi with
    | 0, _ => by
      refine ⟨dx0, ?_⟩
      rw [l0, at0, ← eo, l1, l2, l3, l4]
    | 1, _ => by
      have C := S.cell 1 (by decide)
      rw [l1, oth 1 (by omega) (by decide)]
      unfold Cell at C ⊢
      rw [l5, l6, l7]
      exact C
    | 2, _ => by
      have C := S.cell 2 (by decide)
      rw [l2, oth 2 (by omega) (by decide)]
      unfold Cell at C ⊢
      rw [l8, l9]
      exact C
    | 3, _ => by
      refine ⟨dx, a, ?_, hl.mono ho⟩
      rw [l3, l10, l11, upd_ne (n0 _ nx)]
      exact hx
    | 4, _ => by
      rw [l4, oth 4 (by omega) (by decide)]
      exact (S.cell 4 (by decide)).mono ho
    | 5, _ => by
      rw [l5, oth 5 (by omega) (by decide)]
      exact (S.cell 5 (by decide)).mono ho
    | 6, _ => by
      have C := S.cell 6 (by decide)
      rw [l6, oth 6 (by omega) (by decide)]
      unfold Cell at C ⊢
      rw [C]
      refine congrArg (fun l => some (HO.lst l)) (List.ext_getElem? fun j => ?_)
      by_cases hj : j < 41
      · rw [tab_get hj, tab_get hj, fne (j + 12) (by omega) (by omega) (by omega)]
      · rw [List.getElem?_eq_none (by rw [tab_len]; omega), List.getElem?_eq_none (by rw [tab_len]; omega)]
    | 7, _ => by
      rw [l7, oth 7 (by omega) (by decide)]
      exact S.cell 7 (by decide)
    | 8, _ => by
      rw [l8, oth 8 (by omega) (by decide)]
      exact S.cell 8 (by decide)
    | 9, _ => by
      rw [l9, oth 9 (by omega) (by decide)]
      exact S.cell 9 (by decide)
    | 10, _ => by
      show (upd H1 (L 0) o) (L' 10) = _
      rw [l10, upd_ne (n0 _ n10)]
      exact h10
    | 11, _ => by
      show (upd H1 (L 0) o) (L' 11) = _
      rw [l11, upd_ne (n0 _ n11)]
      exact h11
    | k + 12, hi => by
      rw [fne (k + 12) (by omega) (by omega) (by omega), oth (k + 12) (by omega) (by omega)]
      exact (S.cell (k + 12) hi).mono ho
  · rw [fne i (by omega) (by omega) (by omega), oth i h2 (by omega)]
    exact S.ext i h1 h2
end
section
variable {P : Program} {w : World} {K : PySem.W.Frag} {mg : Str → Option Value} {base : Heap} {c : Cad} {f : Addr} {fd : FuncData}
def spKeep (K : PySem.W.Frag) (c : Cad) : Sp := fun vs H Q _ => ∃ n L m lv a ls led, vs = [.ref (L 0), lv, .ref a] ∧ SiteAt K c n L H m ∧ m.surveys.length ≤ 30 ∧ LinesAt (off n L H) lv ls ∧ LedAt (off n L H) a led ∧
  ∀ L' H', SiteAt K c n L' H' { m with surveys := m.surveys ++ [ls], led := led, sc := false, changed := fun _ => false, fresh := fun _ => false } → Fr n L H L' H' → Q .non H'
theorem putMarks {L : Nat → Addr} (x y : Addr) : putF "marks" (V.ref x) [(("heap" : Str), V.ref (L 1)), ("names", .ref (L 2)), ("marks", .ref y), ("surveys", .ref (L 4))] = [(("heap" : Str), .ref (L 1)), ("names", .ref (L 2)), ("marks", .ref x), ("surveys", .ref (L 4))] :=
  (put_past (by decide)).trans (congrArg _ ((put_past (by decide)).trans (congrArg _ put_here)))
theorem ok_keep (F : Fun K "keep" "Site.keep" s_Site_keep f fd) (T : Txt K mg c) (D_Marks_init : KDef P w K mg base "Marks" c.Marks ["self", "led"] 1 (spMarksInit c)) : FnOk P w K mg base CX0 3 f fd ["self", "lines", "led"] (spKeep K c) := by
  refine F.ok sc_Site_keep (fun vs H Q E h => ?_) (fun cdv A outer s H vs Q E hr h => ⟨_, (pss_cons (ps_expr (pe_bm PySem.F.plainAttrs_list PySem.F.slot_list_append PySem.F.type_list_append mt_append (pe_fld (pv 0) rfl) (pa_cons (pv 1) pa_nil))) (pss_one (ps_fld (pv 0) (pe_kd D_Marks_init (hr.mono (by decide)) rfl (pa_cons (pv 2) pa_nil)) rfl))), ?_⟩)
  · obtain ⟨n, L, m, lv, a, ls, led, rfl, _⟩ := h
    rfl
  · obtain ⟨n, L, m, lv, a, ls, led, rfl, S, few30, hls, hled, q⟩ := h
    obtain ⟨sv, h1, h2⟩ := S.c4
    have l1 := h2.1
    obtain ⟨S1, F1⟩ := S.setSurveys (h2.snoc hls)
    refine seq_drop ?_
    refine v_surveys T S (v_var rfl) _ ⟨.inl ⟨rfl, _, SqL.of h1⟩, _, rfl, L 4, sv, lv, rfl, rfl, h1, few (by omega), ?_⟩
    have hled1 := hled.mono F1.same
    generalize upd H (L 4) (.lst (sv ++ [lv])) = H1 at S1 F1 hled1
    refine fld1 (mk_1 ⟨_, rfl, fun x dx nx ndx ne => ⟨x, dx, a, rfl, upd_same, fun H2 a10 a11 d3 n10 n11 b2 g3 g10 g11 => ⟨rfl, ?_⟩⟩⟩)
    have s2 : Same H1 H2 := Same.made nx ndx fun b o h ne => b2 b o ne h
    have fr2 : ∀ y, (upd (upd H1 dx (.own x)) x (.ins c.Marks dx [])) y = none → H1 y = none ∧ x ≠ y := fun y h => by
      have e1 : y ≠ x := fun z => by
        rw [z, upd_same] at h
        cases h
      have e2 : y ≠ dx := fun z => by
        rw [upd_ne e1, z, upd_same] at h
        cases h
      rw [upd_ne e1, upd_ne e2] at h
      exact ⟨h, fun z => e1 z.symm⟩
    obtain ⟨dx0, g0⟩ := S1.c0
    have C := S1.newMarks (dx0 := dx0) s2 (fr2 _ n10).2 (fr2 _ n11).2 d3 nx (fr2 _ n10).1 (fr2 _ n11).1 g3 g10 g11 hled1
    refine ⟨_, rfl, L 0, c.Site, dx0, _, rfl, s2 _ _ g0, T.cSite, T.nmarks, (by show 4 < 1000; decide), ?_⟩
    rw [putMarks]
    exact q _ _ C.1 (F1.trans C.2)
/-! ### the names now -/
def spList (K : PySem.W.Frag) (c : Cad) (g : Sv.M → List Nat) : Sp := fun vs H Q _ => ∃ n L m, vs = [.ref (L 0)] ∧ SiteAt K c n L H m ∧ ∀ H' p, Same H H' → H p = none → H' p = some (.lst ((g m).map nV)) → Q (.ref p) H'
theorem spList_len {g : Sv.M → List Nat} : ∀ vs H Q E, spList K c g vs H Q E → vs.length = 1 := fun vs H Q E h => by
  obtain ⟨n, L, m, rfl, _⟩ := h
  rfl
theorem ok_objects_now (F : Fun K "objects_now" "objects_now" s_objects_now f fd) (T : Txt K mg c) : FnOk P w K mg base CX0 1 f fd ["site"] (spList K c Sv.objectsNow) := by
  refine F.ok sc_objects_now spList_len (fun cdv A outer s H vs Q E hr h => ⟨_, (pss_cons (ps_set (i := 1) sc_objects_now.nd rfl (.inr rfl) (pe_fld (pe_fld (pv 0) rfl) rfl)) (pss_one (ps_ret (pe_lc (own := [("number", 2)]) (g := gName 2) (by rfl) sc_objects_now.nd (pi_range2 (by rfl) T.range (pa_cons pe_i (pa_cons (pe_op op_add (pe_gi rfl T.gMOST_OBJECTS) pe_i) pa_nil))) (blkOk_by (N := ["site", "living", "number"]) (sc := defScope s_objects_now) (by decide +kernel)) (fun _ _ _ _ _ => pg_name (i := 2) sc_objects_now.nd rfl (Or.inl rfl)) (fun _ _ _ _ _ => (pts_one (pt_val (pe_ix (ix_listK (K := K) rfl) (pv 1) (pv 2) (fun _ _ => rfl))))) (fun _ _ _ _ _ => (pv 2)))))), ?_⟩)
  obtain ⟨n, L, m, rfl, S, q⟩ := h
  refine seq_set (v_living T S (v_heap T S (v_var rfl)) _ ?_)
  refine ret1 ?_
  refine lcE (iR2 (i := 1) (j := 41) v_c (v_add v_c v_c) (by decide) ?_)
  intro D hD
  refine lc_nums hD (by decide) (fun x H' h1 h2 e Yc Nc hY hN => ⟨rfl, ?_⟩) fun H' e h => q H' D e hD h
  have h40 : x ≤ 40 := h2
  have S' := S.same e
  refine a_B (v_ixN (v_var rfl) (v_var rfl) (SqL.of S'.c7) (tab_get (by omega))) _ ?_
  cases z : m.living x with
  | true => exact iteT ⟨_, rfl, hY z H' (Same.refl _)⟩
  | false => exact iteF (hN z H' (Same.refl _))
theorem ok_entries_now (F : Fun K "entries_now" "entries_now" s_entries_now f fd) (T : Txt K mg c) : FnOk P w K mg base CX0 1 f fd ["site"] (spList K c Sv.entriesNow) := by
  refine F.ok sc_entries_now spList_len (fun cdv A outer s H vs Q E hr h => ⟨_, (pss_cons (ps_set (i := 1) sc_entries_now.nd rfl (.inr rfl) (pe_fld (pe_fld (pv 0) rfl) rfl)) (pss_one (ps_ret (pe_lc (own := [("number", 2)]) (g := gName 2) (by rfl) sc_entries_now.nd (pi_range2 (by rfl) T.range (pa_cons pe_i (pa_cons (pe_op op_add (pe_gi rfl T.gMOST_OBJECTS) pe_i) pa_nil))) (blkOk_by (N := ["site", "stamps", "number"]) (sc := defScope s_entries_now) (by decide +kernel)) (fun _ _ _ _ _ => pg_name (i := 2) sc_entries_now.nd rfl (Or.inl rfl)) (fun _ _ _ _ _ => (pts_one (pt_cmpR op_gt (pe_ix (ix_listK (K := K) rfl) (pv 1) (pv 2) (fun _ _ => rfl)) pe_i (nomark _)))) (fun _ _ _ _ _ => (pv 2)))))), ?_⟩)
  obtain ⟨n, L, m, rfl, S, q⟩ := h
  refine seq_set (v_es T S (v_names T S (v_var rfl)) _ ?_)
  refine ret1 ?_
  refine lcE (iR2 (i := 1) (j := 41) v_c (v_add v_c v_c) (by decide) ?_)
  intro D hD
  refine lc_nums (p := fun n => decide (0 < m.es n)) hD (by decide) (fun x H' h1 h2 e Yc Nc hY hN => ⟨rfl, ?_⟩) fun H' e h => q H' D e hD h
  have h40 : x ≤ 40 := h2
  have S' := S.same e
  refine a_test (v_gt (v_ixN (v_var rfl) (v_var rfl) (SqL.of S'.c8) (tab_get (by omega))) v_c) _ ?_
  by_cases z : 0 < m.es x
  · exact ifT (decide_eq_true (by omega)) ⟨_, rfl, hY (decide_eq_true z) H' (Same.refl _)⟩
  · exact ifF (decide_eq_false (by omega)) (hN (decide_eq_false z) H' (Same.refl _))
theorem ok_imports_now (F : Fun K "imports_now" "imports_now" s_imports_now f fd) (T : Txt K mg c) : FnOk P w K mg base CX0 1 f fd ["site"] (spList K c Sv.importsNow) := by
  refine F.ok sc_imports_now spList_len (fun cdv A outer s H vs Q E hr h => ⟨_, (pss_cons (ps_set (i := 1) sc_imports_now.nd rfl (.inr rfl) (pe_fld (pe_fld (pv 0) rfl) rfl)) (pss_one (ps_ret (pe_lc (own := [("number", 2)]) (g := gName 2) (by rfl) sc_imports_now.nd (pi_range2 (by rfl) T.range (pa_cons pe_i (pa_cons (pe_op op_add (pe_gi rfl T.gMOST_FOREIGN) pe_i) pa_nil))) (blkOk_by (N := ["site", "stamps", "number"]) (sc := defScope s_imports_now) (by decide +kernel)) (fun _ _ _ _ _ => pg_name (i := 2) sc_imports_now.nd rfl (Or.inl rfl)) (fun _ _ _ _ _ => (pts_one (pt_cmpR op_gt (pe_ix (ix_listK (K := K) rfl) (pv 1) (pv 2) (fun _ _ => rfl)) pe_i (nomark _)))) (fun _ _ _ _ _ => (pv 2)))))), ?_⟩)
  obtain ⟨n, L, m, rfl, S, q⟩ := h
  refine seq_set (v_im T S (v_names T S (v_var rfl)) _ ?_)
  refine ret1 ?_
  refine lcE (iR2 (i := 1) (j := 21) v_c (v_add v_c v_c) (by decide) ?_)
  intro D hD
  refine lc_nums (p := fun n => decide (0 < m.im n)) hD (by decide) (fun x H' h1 h2 e Yc Nc hY hN => ⟨rfl, ?_⟩) fun H' e h => q H' D e hD h
  have h20 : x ≤ 20 := h2
  have S' := S.same e
  refine a_test (v_gt (v_ixN (v_var rfl) (v_var rfl) (SqL.of S'.c9) (tab_get (by omega))) v_c) _ ?_
  by_cases z : 0 < m.im x
  · exact ifT (decide_eq_true (by omega)) ⟨_, rfl, hY (decide_eq_true z) H' (Same.refl _)⟩
  · exact ifF (decide_eq_false (by omega)) (hN (decide_eq_false z) H' (Same.refl _))
end
end Sw
end
section
set_option maxHeartbeats 1000000
namespace Sw
open PySem PySem.Spec PyProof.Rows L2
/-! ### the heap without one list -/
noncomputable def wo (D : Addr) (H : Hp) : Hp := off 1 (fun _ => D) H
theorem wo_some {D b : Addr} {H : Hp} {o : HO} : wo D H b = some o ↔ H b = some o ∧ b ≠ D := by
  unfold wo
  rw [off_some]
  constructor
  · rintro ⟨h1, h2⟩
    exact ⟨h1, fun e => h2 ⟨0, by decide, e⟩⟩
  · rintro ⟨h1, h2⟩
    exact ⟨h1, fun ⟨_, _, e⟩ => h2 e⟩
theorem wo_sub {D : Addr} {H : Hp} : Same (wo D H) H := fun _ _ h => (wo_some.mp h).1
theorem wo_same {D : Addr} {H H' : Hp} (e : Same H H') : Same (wo D H) (wo D H') := fun b o h => wo_some.mpr ⟨e b o (wo_some.mp h).1, (wo_some.mp h).2⟩
/-- a change at D is none -/
theorem wo_upd {D : Addr} {H : Hp} {o : HO} : Same (wo D H) (wo D (upd H D o)) := fun b x h => wo_some.mpr ⟨by rw [upd_ne (wo_some.mp h).2]; exact (wo_some.mp h).1, (wo_some.mp h).2⟩
section
variable {P : Program} {w : World} {K : PySem.W.Frag} {mg : Str → Option Value} {base : Heap} {c : Cad} {f : Addr} {fd : FuncData}
/-- [(C, x) for x in ns] -/
theorem lc_tups {a : Addr} {ns : List Nat} {kk : Int} {g : Nat → Vl} {j : Nat} {ws : List Nat} {σ : L2.St} {H1 : Hp} {D : Addr} {Qd : Hp → Prop} (hg : ∀ n, encV (g n) = [.int kk, nV n]) (hl : SqL K H1 a (ns.map nV)) (hD : H1 D = none) (hx : ns.length ≤ 100000)
    (hw : ∀ y : Option V, wipe ((wipe σ ws).set j y) ws = wipe σ ws) (hj : ∀ y : V, ((wipe σ ws).set j (some y))[j]? = some (some y)) (hd : ∀ H' vs, Same H1 H' → H' D = some (.lst vs) → VsAt K H' vs (ns.map g) → Qd H') :
    ∃ W : Nat → Nat → Hp → Prop, (∃ m, W 0 m (upd H1 D (.lst []))) ∧ ∀ i m H, W i m H →
      ((Itl K a).stop i H ∧ Qd H) ∨ ((Itl K a).go i H ∧ ∃ Nx : Hp → Prop, (∀ H', Nx H' → ∃ m', m' < m ∧ W (i + 1) m' H') ∧ ∀ x H', (Itl K a).yld i H x H' → gName j x (wipe σ ws) H' fun σ2 H2 => wipe σ2 ws = wipe σ ws ∧ tYes σ2 H2 fun b H3 =>
        if b = true then tTup (tCons (fun _ H Q => Q (.int kk) H) (tCons (tVar j) tNil)) σ2 H3 fun y H4 => ∃ acc, H4 D = some (.lst acc) ∧ acc.length < sizeLine ∧ Nx (upd H4 D (.lst (acc ++ [y]))) else Nx H3) := by
  refine lc_any (g := gName j) (tt := tYes) (te := tTup (tCons (fun _ H Q => Q (.int kk) H) (tCons (tVar j) tNil))) (ws := ws) (σ := σ) (Qd := Qd) hl hD (VAt K) (fun _ _ _ _ e z => z.mono e) (fun H v z l l' h1 h2 => h2.tups (tups_upd h1)) (fun i => (ns.take i).map g) rfl (by rw [List.length_map]; exact hx)
    (fun i => by rw [List.length_map, List.length_take]; exact Nat.min_le_left _ _) ?_ ?_
  · intro i x H' hi e Yc Nc hY hN
    obtain ⟨y, hy, rfl⟩ := nV_get hi
    refine ⟨hw _, yesT (n_t2 v_c (v_var (hj _)) fun t nt => hY _ (g y) _ ?_ (VAt.new ?_) (same_upd nt))⟩
    · show (ns.take (i + 1)).map g = (ns.take i).map g ++ [g y]
      rw [take_more hy, List.map_append]
      rfl
    · rw [upd_same, hg]
  · intro H' vs e h1 h2
    rw [List.length_map, List.take_length] at h2
    exact hd H' vs e h1 h2
theorem enc_obj (n : Nat) : encV (.object n) = [.int 1, nV n] := rfl
theorem enc_for (n : Nat) : encV (.foreign n) = [.int 2, nV n] := rfl
theorem entries_few (m : Sv.M) : (Sv.entriesNow m).length ≤ 100000 := Nat.le_trans (Sv.entries_len m) (by decide)
theorem imports_few (m : Sv.M) : (Sv.importsNow m).length ≤ 20 := by
  have h2 := List.length_filter_le (fun n => decide (0 < m.im n)) (Sv.nums 20)
  have e2 : (Sv.nums 20).length = 20 := by decide
  unfold Sv.importsNow
  omega
abbrev spEnt (K : PySem.W.Frag) (c : Cad) : Sp := spList K c Sv.entriesNow
abbrev spImp (K : PySem.W.Frag) (c : Cad) : Sp := spList K c Sv.importsNow
abbrev spObj (K : PySem.W.Frag) (c : Cad) : Sp := spList K c Sv.objectsNow
def spVals (K : PySem.W.Frag) (c : Cad) (g : Sv.M → List Vl) : Sp := fun vs H Q _ => ∃ n L m, vs = [.ref (L 0)] ∧ SiteAt K c n L H m ∧ Sv.Wf m ∧ ∀ H' p fv, Same H H' → H p = none → H' p = some (.lst fv) → VsAt K H' fv (g m) → Q (.ref p) H'
theorem spVals_len {g : Sv.M → List Vl} : ∀ vs H Q E, spVals K c g vs H Q E → vs.length = 1 := fun vs H Q E h => by
  obtain ⟨n, L, m, rfl, _⟩ := h
  rfl
def nameVals (m : Sv.M) : List Vl := (Sv.namesNow m).map Vbxlaf.valueOf
theorem nameVals_is (m : Sv.M) : nameVals m = (Sv.entriesNow m).map Vbxlaf.Value.object ++ (Sv.importsNow m).map Vbxlaf.Value.foreign := by
  unfold nameVals Sv.namesNow
  rw [List.map_append, List.map_map, List.map_map]
  rfl
theorem ok_names_now (F : Fun K "names_now" "names_now" s_names_now f fd) (T : Txt K mg c) (D_entries_now : Def P w K mg base "entries_now" ["site"] 1 (spEnt K c)) (D_imports_now : Def P w K mg base "imports_now" ["site"] 1 (spImp K c)) :
    FnOk P w K mg base CX0 2 f fd ["site"] (spVals K c nameVals) := by
  refine F.ok sc_names_now spVals_len (fun cdv A outer s H vs Q E hr h => ⟨_, (pss_cons (ps_setLc (i := 1) (own := [("number", 2)]) (g := gName 2) (by rfl) sc_names_now.nd rfl rfl (sw_true rfl rfl rfl (by decide +kernel)) (pi_list (pe_cd D_entries_now (hr.mono (by decide)) rfl (pa_cons (pv 0) pa_nil))) (blkOk_by (N := ["site", "entries", "number"]) (sc := defScope s_names_now) (by decide +kernel)) (fun _ _ _ _ _ => pg_name (i := 2) sc_names_now.nd rfl (Or.inl rfl)) (fun _ _ _ _ _ => pts_nil) (fun _ _ _ _ _ => (pe_tup (pa_cons (pe_gi rfl T.gOBJECT) (pa_cons (pv 2) pa_nil))))) (pss_one (ps_ret (pe_op op_cat (pv 1) (pe_lc (own := [("number", 2)]) (g := gName 2) (by rfl) sc_names_now.nd (pi_list (pe_cd D_imports_now (hr.mono (by decide)) rfl (pa_cons (pv 0) pa_nil))) (blkOk_by (N := ["site", "entries", "number"]) (sc := defScope s_names_now) (by decide +kernel)) (fun _ _ _ _ _ => pg_name (i := 2) sc_names_now.nd rfl (Or.inl rfl)) (fun _ _ _ _ _ => pts_nil) (fun _ _ _ _ _ => (pe_tup (pa_cons (pe_gi rfl T.gFOREIGN) (pa_cons (pv 2) pa_nil))))))))), ?_⟩)
  obtain ⟨n, L, m, rfl, S, W, q⟩ := h
  refine seq_set ?_
  refine lcE (iL (c_1 (v_var rfl) ⟨n, L, m, rfl, S, fun H1 p1 s1 n1 h1 => ⟨p1, rfl, ⟨_, SqL.of h1⟩, ?_⟩⟩))
  intro D hD
  refine lc_tups (g := Vbxlaf.Value.object) enc_obj (SqL.of h1) hD (entries_few m) (fun y => rfl) (fun y => rfl) fun H2 ev s2 h2 hv2 => ?_
  refine ret1 (e_op ⟨_, rfl, ?_⟩)
  refine lcE (iL (c_1 (v_var rfl) ⟨n, L, m, rfl, S.same (s1.trans s2), fun H3 p3 s3 n3 h3 => ⟨p3, rfl, ⟨_, SqL.of h3⟩, ?_⟩⟩))
  intro D2 hD2
  refine lc_tups (g := Vbxlaf.Value.foreign) enc_for (SqL.of h3) hD2 (Nat.le_trans (imports_few m) (by decide)) (fun y => rfl) (fun y => rfl) fun H4 iv s4 h4 hv4 => ?_
  have l1 := hv2.1
  have l2 := hv4.1
  have l3 := Sv.entries_len m
  have l4 := imports_few m
  rw [List.length_map] at l1 l2
  refine ⟨D, D2, ev, iv, rfl, rfl, s4 _ _ (s3 _ _ h2), h4, few' (by omega), fun p np => ?_⟩
  have s5 := same_upd (o := .lst (ev ++ iv)) np
  refine q _ p _ ((((s1.trans s2).trans s3).trans s4).trans s5) ((((s1.trans s2).trans s3).trans s4).free np) upd_same ?_
  rw [nameVals_is]
  exact ((hv2.mono ((s3.trans s4).trans s5)).append (hv4.mono s5))
theorem ok_all_led (F : Fun K "all_led" "all_led" s_all_led f fd) (T : Txt K mg c) (D_entries_now : Def P w K mg base "entries_now" ["site"] 1 (spEnt K c)) (D_reached : Def P w K mg base "reached" ["heap", "seeds"] 2 (spReached K c)) :
    FnOk P w K mg base CX0 3 f fd ["site"] (spVals K c Sv.allLed) := by
  refine F.ok sc_all_led spVals_len (fun cdv A outer s H vs Q E hr h => ⟨_, (pss_cons (ps_setLc (i := 1) (own := [("number", 2)]) (g := gName 2) (by rfl) sc_all_led.nd rfl rfl (sw_true rfl rfl rfl (by decide +kernel)) (pi_list (pe_cd D_entries_now (hr.mono (by decide)) rfl (pa_cons (pv 0) pa_nil))) (blkOk_by (N := ["site", "entries", "number"]) (sc := defScope s_all_led) (by decide +kernel)) (fun _ _ _ _ _ => pg_name (i := 2) sc_all_led.nd rfl (Or.inl rfl)) (fun _ _ _ _ _ => pts_nil) (fun _ _ _ _ _ => (pe_tup (pa_cons (pe_gi rfl T.gOBJECT) (pa_cons (pv 2) pa_nil))))) (pss_one (ps_ret (pe_cd D_reached (hr.mono (by decide)) rfl (pa_cons (pe_fld (pv 0) rfl) (pa_cons (pe_op op_cat (pe_fld (pe_fld (pv 0) rfl) rfl) (pv 1)) pa_nil)))))), ?_⟩)
  obtain ⟨n, L, m, rfl, S, W, q⟩ := h
  refine seq_set ?_
  refine lcE (iL (c_1 (v_var rfl) ⟨n, L, m, rfl, S, fun H1 p1 s1 n1 h1 => ⟨p1, rfl, ⟨_, SqL.of h1⟩, ?_⟩⟩))
  intro D hD
  refine lc_tups (g := Vbxlaf.Value.object) enc_obj (SqL.of h1) hD (entries_few m) (fun y => rfl) (fun y => rfl) fun H2 ev s2 h2 hv2 => ?_
  have S2 := S.same (s1.trans s2)
  obtain ⟨sv, g1, g2⟩ := S2.c5
  have l1 := hv2.1
  have l2 := g2.1
  have l3 := Sv.entries_len m
  have l4 := W.six
  rw [List.length_map] at l1
  refine ret1 (e_2 (v_heap T S2 (v_var rfl)) (e_op (v_slots T S2 (v_heap T S2 (v_var rfl)) _ ⟨_, rfl, L 5, D, sv, ev, rfl, rfl, g1, h2, few' (by omega), fun p np => ?_⟩)))
  have s5 := same_upd (o := .lst (sv ++ ev)) np
  have s6 := (s1.trans s2).trans s5
  refine ⟨n, L, m, p, _, Sv.allSeeds m, rfl, S.same s6, W, upd_same, (g2.mono (Same.trans off_sub s5)).append (hv2.mono s5), ?_, Sv.seeds_ok W, fun H' p' fv s7 n7 h7 hv7 => q H' p' fv (s6.trans s7) (s6.free n7) h7 hv7⟩
  unfold Sv.allSeeds
  rw [List.length_append, List.length_map]
  omega
theorem ok_sources_now (F : Fun K "sources_now" "sources_now" s_sources_now f fd) (T : Txt K mg c) (D_entries_now : Def P w K mg base "entries_now" ["site"] 1 (spEnt K c)) : FnOk P w K mg base CX0 2 f fd ["site"] (spList K c Sv.sourcesNow) := by
  refine F.ok sc_sources_now spList_len (fun cdv A outer s H vs Q E hr h => ⟨_, (pss_one (ps_ret (pe_op op_cat (pe_lst (pa_cons pe_i pa_nil)) (pe_cd D_entries_now (hr.mono (by decide)) rfl (pa_cons (pv 0) pa_nil))))), ?_⟩)
  obtain ⟨n, L, m, rfl, S, q⟩ := h
  refine ret1 (e_op ⟨(by show 1 ≤ sizeLine; decide), fun l nl => ?_⟩)
  have s1 := same_upd (o := .lst [.int 0]) nl
  refine c_1 (v_var rfl) ⟨n, L, m, rfl, S.same s1, fun H2 p2 s2 n2 h2 => ⟨l, p2, [.int 0], _, rfl, rfl, s2 _ _ upd_same, h2, few' ?_, fun y ny => ?_⟩⟩
  · have := Sv.entries_len m
    rw [List.length_map]
    show 1 + _ ≤ _
    omega
  · exact q _ y ((s1.trans s2).trans (same_upd ny)) ((s1.trans s2).free ny) upd_same
abbrev spSrc (K : PySem.W.Frag) (c : Cad) : Sp := spList K c Sv.sourcesNow
/-! ### tables by source -/
def TabV (K : PySem.W.Frag) (F : Hp) (tv : List V) (g : Nat → List Vl) : Prop := tv.length = 41 ∧ ∀ i, i < 41 → ∃ a lv, tv[i]? = some (.ref a) ∧ F a = some (.lst lv) ∧ VsAt K F lv (g i)
theorem TabV.mono {F F' : Hp} {tv : List V} {g : Nat → List Vl} (e : Same F F') (h : TabV K F tv g) : TabV K F' tv g := ⟨h.1, fun i hi => by
  obtain ⟨a, lv, h1, h2, h3⟩ := h.2 i hi
  exact ⟨a, lv, h1, e _ _ h2, h3.mono e⟩⟩
def TabN (F : Hp) (tv : List V) (g : Nat → List Nat) : Prop := tv.length = 41 ∧ ∀ i, i < 41 → ∃ a, tv[i]? = some (.ref a) ∧ F a = some (.lst ((g i).map nV))
theorem TabN.mono {F F' : Hp} {tv : List V} {g : Nat → List Nat} (e : Same F F') (h : TabN F tv g) : TabN F' tv g := ⟨h.1, fun i hi => by
  obtain ⟨a, h1, h2⟩ := h.2 i hi
  exact ⟨a, h1, e _ _ h2⟩⟩
def bySource {A : Type} (m : Sv.M) (i : Nat) (g : Nat → List A) (s : Nat) : List A := if s ∈ (Sv.sourcesNow m).take i then g s else []
theorem bySource_more {A : Type} {m : Sv.M} {i x s : Nat} {g : Nat → List A} (h : (Sv.sourcesNow m)[i]? = some x) : bySource m (i + 1) g s = if s = x then g s else bySource m i g s := by
  unfold bySource
  rw [take_more h]
  by_cases e : s = x
  · rw [if_pos e, if_pos (List.mem_append.mpr (.inr (by rw [e]; exact List.mem_singleton_self x)))]
  · rw [if_neg e]
    by_cases z : s ∈ (Sv.sourcesNow m).take i
    · rw [if_pos z, if_pos (List.mem_append.mpr (.inl z))]
    · rw [if_neg z, if_neg fun q => ?_]
      rcases List.mem_append.mp q with q | q
      · exact z q
      · exact e (List.mem_singleton.mp q)
theorem source_ok {m : Sv.M} (W : Sv.Wf m) {i x : Nat} (h : (Sv.sourcesNow m)[i]? = some x) : x < 41 ∧ (x = 0 ∨ 0 < m.es x) := by
  have hm : x ∈ Sv.sourcesNow m := List.mem_of_getElem? h
  rcases List.mem_cons.mp hm with e | e
  · exact ⟨by omega, .inl e⟩
  · have e1 := (Sv.mem_entriesNow W).mp e
    have := W.lv x (W.ent x e1)
    have := W.most
    exact ⟨by omega, .inr e1⟩
theorem sources_few (m : Sv.M) : (Sv.sourcesNow m).length ≤ 41 := by
  have := Sv.entries_len m
  unfold Sv.sourcesNow
  rw [List.length_cons]
  omega
def spTabV (K : PySem.W.Frag) (c : Cad) : Sp := fun vs H Q _ => ∃ n L m, vs = [.ref (L 0)] ∧ SiteAt K c n L H m ∧ Sv.Wf m ∧
  ∀ H' p tv, Same H H' → H p = none → H' p = some (.lst tv) → TabV K H' tv (fun s => if s ∈ Sv.sourcesNow m then Sv.ledBy m s else []) → Q (.ref p) H'
theorem ok_values_table (F : Fun K "values_table" "values_table" s_values_table f fd) (T : Txt K mg c) (D_led_by : Def P w K mg base "led_by" ["heap", "source"] 3 (spLed K c)) (D_sources_now : Def P w K mg base "sources_now" ["site"] 2 (spSrc K c)) :
    FnOk P w K mg base CX0 4 f fd ["site"] (spTabV K c) := by
  refine F.ok sc_values_table (fun vs H Q E h => ?_) (fun cdv A outer s H vs Q E hr h => ⟨_, (pss_cons (ps_setLc (i := 1) (own := [("at", 3)]) (g := gName 3) (by rfl) sc_values_table.nd rfl rfl (sw_true rfl rfl rfl (by decide +kernel)) (pi_range1 (by rfl) T.range (pa_cons (pe_op op_add (pe_gi rfl T.gMOST_OBJECTS) pe_i) pa_nil)) (blkOk_by (N := ["site", "table", "source", "at"]) (sc := defScope s_values_table) (by decide +kernel)) (fun _ _ _ _ _ => pg_name (i := 3) sc_values_table.nd rfl (Or.inl rfl)) (fun _ _ _ _ _ => pts_nil) (fun _ _ _ _ _ => (pe_lst pa_nil))) (pss_cons (ps_for PassesOwn.never rfl (pi_list (pe_cd D_sources_now (hr.mono (by decide)) rfl (pa_cons (pv 0) pa_nil))) (pg_name (i := 2) sc_values_table.nd rfl (.inl rfl)) (pss_one (ps_asg (pe_cd D_led_by (hr.mono (by decide)) rfl (pa_cons (pe_fld (pv 0) rfl) (pa_cons (pv 2) pa_nil))) (pg_sub (pv 1) (pv 2) set_list)))) (pss_one (ps_ret (pv 1))))), ?_⟩)
  · obtain ⟨n, L, m, rfl, _⟩ := h
    rfl
  obtain ⟨n, L, m, rfl, S, W, q⟩ := h
  refine seq_set ?_
  refine lcE (iR1 (j := 41) (v_add v_c v_c) (by decide) (by decide) ?_)
  intro D hD
  refine lc_lists hD (by decide) (fun y => rfl) fun H1 as s1 kD la na ka => ?_
  refine seq_forE (c_1 (v_var rfl) ⟨n, L, m, rfl, S.same s1, fun H2 p2 s2 n2 h2 => ⟨p2, rfl, ⟨_, SqL.of h2⟩, ?_⟩⟩)
  have lS := sources_few m
  have dp2 : p2 ≠ D := fun e => by
    rw [e, kD] at n2
    cases n2
  refine loopL (vs := (Sv.sourcesNow m).map nV) (fun i σ H' => ∃ y1 y2, σ = [some (.ref (L 0)), some (.ref D), y1, y2] ∧ Same H H' ∧ H' p2 = some (.lst ((Sv.sourcesNow m).map nV)) ∧ ∃ tv, H' D = some (.lst tv) ∧ TabV K (wo D H') tv (bySource m i (Sv.ledBy m)))
    ⟨none, none, rfl, s1.trans s2, h2, _, s2 _ _ kD, by rw [List.length_map]; exact la, fun i hi => ?_⟩ (fun i σ H' _ ⟨_, _, _, _, h, _⟩ => SqL.of h) ?_ ?_
  · have hb : as[i]? = some as[i] := List.getElem?_eq_getElem (by omega)
    obtain ⟨_, k2, k3⟩ := ka _ (List.mem_of_getElem? hb)
    exact ⟨as[i], [], by rw [List.getElem?_map, hb]; rfl, wo_some.mpr ⟨s2 _ _ k3, k2⟩, Pt.nil⟩
  · rintro i y σ H' hi ⟨y1, y2, rfl, e, g1, tv, g2, g3⟩
    obtain ⟨x, hx, rfl⟩ := nV_get hi
    obtain ⟨x41, xs⟩ := source_ok W hx
    have S' := S.same e
    refine gN (asgG (c_2 (v_heap T S' (v_var rfl)) (v_var rfl) ⟨n, L, m, x, rfl, S', W, xs, fun H3 p3 fv s3 n3 h3 hv3 => ?_⟩))
    have d3 : p3 ≠ D := fun z => by
      rw [z, g2] at n3
      cases n3
    refine gSubE (v_var rfl) (v_var rfl) (s3 _ _ g2) (by rw [g3.1]; exact x41) ⟨_, _, rfl, same_old (e.trans s3) hD, ?_, tv.set x (.ref p3), upd_same, by rw [List.length_set]; exact g3.1, fun j hj => ?_⟩
    · rw [upd_ne dp2]
      exact s3 _ _ g1
    · have up : Same (wo D H') (wo D (upd H3 D (.lst (tv.set x (.ref p3))))) := (wo_same s3).trans wo_upd
      rw [bySource_more hx]
      by_cases z : j = x
      · subst z
        rw [if_pos rfl]
        refine ⟨p3, fv, List.getElem?_set_self (by rw [g3.1]; exact hj), wo_some.mpr ⟨?_, d3⟩, ?_⟩
        · rw [upd_ne d3]
          exact h3
        · have tu : ∀ b zs, H3 b = some (.tup zs) → (wo D (upd H3 D (.lst (tv.set j (.ref p3))))) b = some (.tup zs) := fun b zs h => by
            have nb : b ≠ D := fun q => by
              rw [q, s3 _ _ g2] at h
              cases h
            refine wo_some.mpr ⟨?_, nb⟩
            rw [upd_ne nb]
            exact h
          exact hv3.tups tu
      · rw [if_neg z, List.getElem?_set_ne (fun q => z q.symm)]
        obtain ⟨a, lv, k1, k2, k3⟩ := g3.2 j hj
        exact ⟨a, lv, k1, up _ _ k2, k3.mono up⟩
  · rintro σ H' ⟨y1, y2, rfl, e, g1, tv, g2, g3⟩
    refine s_ret (v_var rfl) (q H' D tv e hD g2 ?_)
    have := g3.mono wo_sub
    have e2 : bySource m ((Sv.sourcesNow m).map nV).length (Sv.ledBy m) = fun s => if s ∈ Sv.sourcesNow m then Sv.ledBy m s else [] := by
      funext s
      unfold bySource
      rw [List.length_map, List.take_length]
    rw [e2] at this
    exact this
def spTabN (K : PySem.W.Frag) (c : Cad) : Sp := fun vs H Q _ => ∃ n L m, vs = [.ref (L 0)] ∧ SiteAt K c n L H m ∧ Sv.Wf m ∧
  ∀ H' p tv, Same H H' → H p = none → H' p = some (.lst tv) → TabN (wo p H') tv (fun s => if s ∈ Sv.sourcesNow m then Sv.objectsLed m s else []) → (∀ i b, i < 41 → tv[i]? = some (.ref b) → H b = none) → Q (.ref p) H'
theorem ok_objects_table (F : Fun K "objects_table" "objects_table" s_objects_table f fd) (T : Txt K mg c) (D_objects_led : Def P w K mg base "objects_led" ["heap", "source"] 4 (spLedObj K c)) (D_sources_now : Def P w K mg base "sources_now" ["site"] 2 (spSrc K c)) :
    FnOk P w K mg base CX0 5 f fd ["site"] (spTabN K c) := by
  refine F.ok sc_objects_table (fun vs H Q E h => ?_) (fun cdv A outer s H vs Q E hr h => ⟨_, (pss_cons (ps_setLc (i := 1) (own := [("at", 3)]) (g := gName 3) (by rfl) sc_objects_table.nd rfl rfl (sw_true rfl rfl rfl (by decide +kernel)) (pi_range1 (by rfl) T.range (pa_cons (pe_op op_add (pe_gi rfl T.gMOST_OBJECTS) pe_i) pa_nil)) (blkOk_by (N := ["site", "table", "source", "at"]) (sc := defScope s_objects_table) (by decide +kernel)) (fun _ _ _ _ _ => pg_name (i := 3) sc_objects_table.nd rfl (Or.inl rfl)) (fun _ _ _ _ _ => pts_nil) (fun _ _ _ _ _ => (pe_lst pa_nil))) (pss_cons (ps_for PassesOwn.never rfl (pi_list (pe_cd D_sources_now (hr.mono (by decide)) rfl (pa_cons (pv 0) pa_nil))) (pg_name (i := 2) sc_objects_table.nd rfl (.inl rfl)) (pss_one (ps_asg (pe_cd D_objects_led (hr.mono (by decide)) rfl (pa_cons (pe_fld (pv 0) rfl) (pa_cons (pv 2) pa_nil))) (pg_sub (pv 1) (pv 2) set_list)))) (pss_one (ps_ret (pv 1))))), ?_⟩)
  · obtain ⟨n, L, m, rfl, _⟩ := h
    rfl
  obtain ⟨n, L, m, rfl, S, W, q⟩ := h
  refine seq_set ?_
  refine lcE (iR1 (j := 41) (v_add v_c v_c) (by decide) (by decide) ?_)
  intro D hD
  refine lc_lists hD (by decide) (fun y => rfl) fun H1 as s1 kD la na ka => ?_
  refine seq_forE (c_1 (v_var rfl) ⟨n, L, m, rfl, S.same s1, fun H2 p2 s2 n2 h2 => ⟨p2, rfl, ⟨_, SqL.of h2⟩, ?_⟩⟩)
  have lS := sources_few m
  have dp2 : p2 ≠ D := fun e => by
    rw [e, kD] at n2
    cases n2
  refine loopL (vs := (Sv.sourcesNow m).map nV) (fun i σ H' => ∃ y1 y2, σ = [some (.ref (L 0)), some (.ref D), y1, y2] ∧ Same H H' ∧ H' p2 = some (.lst ((Sv.sourcesNow m).map nV)) ∧ ∃ tv, H' D = some (.lst tv) ∧ TabN (wo D H') tv (bySource m i (Sv.objectsLed m)) ∧ (∀ i b, i < 41 → tv[i]? = some (.ref b) → H b = none))
    ⟨none, none, rfl, s1.trans s2, h2, _, s2 _ _ kD, ⟨by rw [List.length_map]; exact la, fun i hi => ?_⟩, fun i b hi h => ?_⟩ (fun i σ H' _ ⟨_, _, _, _, h, _⟩ => SqL.of h) ?_ ?_
  · have hb : as[i]? = some as[i] := List.getElem?_eq_getElem (by omega)
    obtain ⟨_, k2, k3⟩ := ka _ (List.mem_of_getElem? hb)
    exact ⟨as[i], by rw [List.getElem?_map, hb]; rfl, wo_some.mpr ⟨s2 _ _ k3, k2⟩⟩
  · have hb : as[i]? = some as[i] := List.getElem?_eq_getElem (by omega)
    rw [List.getElem?_map, hb] at h
    cases h
    exact (ka _ (List.mem_of_getElem? hb)).1
  · rintro i y σ H' hi ⟨y1, y2, rfl, e, g1, tv, g2, g3, g4⟩
    obtain ⟨x, hx, rfl⟩ := nV_get hi
    obtain ⟨x41, xs⟩ := source_ok W hx
    have S' := S.same e
    refine gN (asgG (c_2 (v_heap T S' (v_var rfl)) (v_var rfl) ⟨n, L, m, x, rfl, S', W, xs, fun H3 p3 s3 n3 h3 => ?_⟩))
    have d3 : p3 ≠ D := fun z => by
      rw [z, g2] at n3
      cases n3
    refine gSubE (v_var rfl) (v_var rfl) (s3 _ _ g2) (by rw [g3.1]; exact x41) ⟨_, _, rfl, same_old (e.trans s3) hD, ?_, tv.set x (.ref p3), upd_same, ⟨by rw [List.length_set]; exact g3.1, fun j hj => ?_⟩, fun j b hj h => ?_⟩
    · rw [upd_ne dp2]
      exact s3 _ _ g1
    · have up : Same (wo D H') (wo D (upd H3 D (.lst (tv.set x (.ref p3))))) := (wo_same s3).trans wo_upd
      rw [bySource_more hx]
      by_cases z : j = x
      · subst z
        rw [if_pos rfl]
        refine ⟨p3, List.getElem?_set_self (by rw [g3.1]; exact hj), wo_some.mpr ⟨?_, d3⟩⟩
        rw [upd_ne d3]
        exact h3
      · rw [if_neg z, List.getElem?_set_ne (fun q => z q.symm)]
        obtain ⟨a, k1, k2⟩ := g3.2 j hj
        exact ⟨a, k1, up _ _ k2⟩
    · by_cases z : j = x
      · subst z
        rw [List.getElem?_set_self (by rw [g3.1]; exact hj)] at h
        cases h
        exact e.free n3
      · rw [List.getElem?_set_ne (fun q => z q.symm)] at h
        exact g4 j b hj h
  · rintro σ H' ⟨y1, y2, rfl, e, g1, tv, g2, g3, g4⟩
    refine s_ret (v_var rfl) (q H' D tv e hD g2 ?_ g4)
    have e2 : bySource m ((Sv.sourcesNow m).map nV).length (Sv.objectsLed m) = fun s => if s ∈ Sv.sourcesNow m then Sv.objectsLed m s else [] := by
      funext s
      unfold bySource
      rw [List.length_map, List.take_length]
    rw [e2] at g3
    exact g3
end
end Sw
end
section
set_option maxHeartbeats 1000000
namespace Sw
open PySem PySem.Spec PyProof.Rows L2
section
variable {P : Program} {w : World} {K : PySem.W.Frag} {mg : Str → Option Value} {base : Heap} {c : Cad} {f : Addr} {fd : FuncData}
theorem e_and {t u : TT} {σ : L2.St} {H : Hp} {Q : Bool → Hp → Prop} (h : t σ H fun b H1 => if b = true then u σ H1 Q else Q false H1) : tAnd t u σ H Q := h
theorem e_test {te : TE} {σ : L2.St} {H : Hp} {Q : Bool → Hp → Prop} (h : te σ H fun x H1 => ∃ k, x = .bl k ∧ Q k H1) : tTest te σ H Q := h
/-! ### lines -/
def spLineSrc (K : PySem.W.Frag) : Sp := fun vs H Q _ => ∃ (a t : Addr) (v : V) (ns : List Nat) (tv : List V) (g : Nat → List Vl) (x : Vl), vs = [.ref a, .ref t, v] ∧ H a = some (.lst (ns.map nV)) ∧ ns.length ≤ 1000 ∧ (∀ y ∈ ns, y < 41) ∧ H t = some (.lst tv) ∧ TabV K H tv g ∧ VAt K H v x ∧
  ∀ H' p, Same H H' → H p = none → H' p = some (.lst ((ns.filter fun n => decide (Vbxlaf.Value.object n ≠ x) && decide (x ∈ g n)).map nV)) → Q (.ref p) H'
theorem ok_line_sources (F : Fun K "line_sources" "line_sources" s_line_sources f fd) (T : Txt K mg c) : FnOk P w K mg base CX0 1 f fd ["entries", "table", "name"] (spLineSrc K) := by
  refine F.ok sc_line_sources (fun vs H Q E h => ?_) (fun cdv A outer s H vs Q E hr h => ⟨_, (pss_one (ps_ret (pe_lc (own := [("number", 3)]) (g := gName 3) (by rfl) sc_line_sources.nd (pi_list (pv 0)) (blkOk_by (N := ["entries", "table", "name", "number"]) (sc := defScope s_line_sources) (by decide +kernel)) (fun _ _ _ _ _ => pg_name (i := 3) sc_line_sources.nd rfl (Or.inl rfl)) (fun _ _ _ _ _ => (pts_one (PW.pt (pw_and (pt_cmpR (op_neDK (K := K) rfl (un64 hr)) (pe_tup (pa_cons (pe_gi rfl T.gOBJECT) (pa_cons (pv 3) pa_nil))) (pv 2) (nomark _)) (pw_and1 (pt_cmpR (op_inDK (K := K) rfl (un65 hr)) (pv 2) (pe_ix (ix_listK (K := K) rfl) (pv 1) (pv 3) (fun _ _ => rfl)) (by rfl))))))) (fun _ _ _ _ _ => (pv 3))))), ?_⟩)
  · obtain ⟨a, t, v, ns, tv, g, x, rfl, _⟩ := h
    rfl
  obtain ⟨a, t, v, ns, tv, g, x, rfl, h1, h2, h3, h4, h5, h6, q⟩ := h
  refine ret1 ?_
  refine lcE (iL ⟨_, rfl, a, rfl, ⟨_, SqL.of h1⟩, ?_⟩)
  intro D hD
  refine lc_filt (ns := ns) (p := fun n => decide (Vbxlaf.Value.object n ≠ x) && decide (x ∈ g n)) (SqL.of h1) hD (by omega) (fun y H' hy e Yc Nc hY hN => ⟨rfl, ?_⟩) fun H' e h => q H' D e hD h
  have y41 := h3 y hy
  obtain ⟨b, lv, k1, k2, k3⟩ := h5.2 y y41
  refine e_and (e_test (e_op (n_t2 v_c (v_var rfl) fun p np => ⟨_, rfl, ?_⟩)))
  have s1 := same_upd (o := .tup [.int 1, nV y]) np
  have e1 := e.trans s1
  refine rd_ne (x := .object y) (VAt.new upd_same) (h6.mono e1) ⟨_, rfl, ?_⟩
  by_cases z : Vbxlaf.Value.object y = x
  · refine ifF (ndF z) (ifF rfl (hN ?_ _ s1))
    simp [z]
  · refine ifT (nd z) (a_test (v_inD (v_var rfl) (v_ixN (v_var rfl) (v_var rfl) (SqL.of (e1 _ _ h4)) k1) (h6.mono e1) (SqL.of (e1 _ _ k2)) (k3.mono e1)) _ ?_)
    by_cases z2 : x ∈ g y
    · exact ifT (decide_eq_true z2) ⟨_, rfl, hY (by simp [z, z2]) _ s1⟩
    · exact ifF (decide_eq_false z2) (hN (by simp [z2]) _ s1)
theorem lnAt_upd {D : Addr} {H : Hp} {o : HO} {vs : List V} {ls : List Vbxlaf.Line} (h : Pt (LnAt (wo D H)) vs ls) : Pt (LnAt (wo D (upd H D o))) vs ls := h.mono fun _ _ z => z.mono wo_upd
def spLines (K : PySem.W.Frag) (c : Cad) : Sp := fun vs H Q _ => ∃ n L m, vs = [.ref (L 0)] ∧ SiteAt K c n L H m ∧ Sv.Wf m ∧
  ∀ H' p vs', Same H H' → H p = none → H' p = some (.lst vs') → Pt (fun v l => ∃ a b, v = .ref a ∧ H a = none ∧ H b = none ∧ H' a = some (.tup [nV l.name.kind, nV l.name.number, nV l.stamp, nV (Sv.flagN l.rooted), .ref b]) ∧ H' b = some (.lst (l.sources.map nV))) vs' (Sv.linesNow m) → Q (.ref p) H'
theorem valueOf_kind {name : Vbxlaf.Name} (h : name.kind = 1 ∨ name.kind = 2) : encV (Vbxlaf.valueOf name) = [nV name.kind, nV name.number] := by
  unfold Vbxlaf.valueOf
  rcases h with e | e
  · rw [if_pos e, e]
    rfl
  · rw [if_neg (by omega), e]
    rfl
theorem stampZ_name {m : Sv.M} (W : Sv.Wf m) {name : Vbxlaf.Name} (h : name.kind = 1 ∨ name.kind = 2) : Sv.stampZ m (name.kind : Int) (name.number : Int) = Sv.stampM m name := by
  have := Sv.stampZ_is W (k := (name.kind : Int)) (z := (name.number : Int)) (by unfold Sv.kindOk; rcases h with e | e <;> rw [e] <;> rfl) (by omega)
  rw [this]
  rfl
theorem lines_more {m : Sv.M} {i : Nat} {name : Vbxlaf.Name} (h : (Sv.namesNow m)[i]? = some name) : (Sv.linesNow m).take (i + 1) = (Sv.linesNow m).take i ++ [Sv.lineM m name] := by
  refine take_more ?_
  unfold Sv.linesNow
  rw [List.getElem?_map, h]
  rfl
theorem rooted_is (m : Sv.M) (name : Vbxlaf.Name) : (Sv.lineM m name).rooted = decide (Vbxlaf.valueOf name ∈ Sv.ledBy m 0) := by
  unfold Sv.lineM
  rw [Bool.eq_iff_iff, decide_eq_true_iff]
theorem ok_lines_now (F : Fun K "lines_now" "lines_now" s_lines_now f fd) (T : Txt K mg c) (D_Site_stamp_of : MDef P w K mg base c.Site "stamp_of" ["self", "kind", "number"] 1 (spStamp K c)) (D_entries_now : Def P w K mg base "entries_now" ["site"] 1 (spEnt K c))
    (D_line_sources : Def P w K mg base "line_sources" ["entries", "table", "name"] 1 (spLineSrc K)) (D_names_now : Def P w K mg base "names_now" ["site"] 2 (spVals K c nameVals)) (D_values_table : Def P w K mg base "values_table" ["site"] 4 (spTabV K c)) :
    FnOk P w K mg base CX0 5 f fd ["site"] (spLines K c) := by
  refine F.ok sc_lines_now (fun vs H Q E h => ?_) (fun cdv A outer s H vs Q E hr h => ⟨_, (pss_cons (ps_set (i := 1) sc_lines_now.nd rfl (.inl rfl) (pe_cd D_entries_now (hr.mono (by decide)) rfl (pa_cons (pv 0) pa_nil))) (pss_cons (ps_set (i := 2) sc_lines_now.nd rfl (.inl rfl) (pe_cd D_values_table (hr.mono (by decide)) rfl (pa_cons (pv 0) pa_nil))) (pss_cons (ps_set (i := 3) sc_lines_now.nd rfl (.inl rfl) (pe_lst pa_nil)) (pss_cons (ps_for PassesOwn.never rfl (pi_list (pe_cd D_names_now (hr.mono (by decide)) rfl (pa_cons (pv 0) pa_nil))) (pg_name (i := 4) sc_lines_now.nd rfl (.inl rfl)) (pss_cons (ps_asg (pv 4) (pg_tup rfl (pgs_cons (pg_name (i := 7) sc_lines_now.nd rfl (.inl rfl)) (pgs_cons (pg_name (i := 8) sc_lines_now.nd rfl (.inl rfl)) pgs_nil)))) (pss_cons (ps_set (i := 5) sc_lines_now.nd rfl (.inl rfl) (pe_md (pv 0) T.cSite D_Site_stamp_of (hr.mono (by decide)) (pa_cons (pv 7) (pa_cons (pv 8) pa_nil)))) (pss_cons (ps_set (i := 6) sc_lines_now.nd rfl (.inl rfl) (pe_ifExp (pt_cmpR (op_inD (un65 hr)) (pv 4) (pe_ix ix_list (pv 2) pe_i (fun _ _ => rfl)) (by rfl)) pe_i pe_i)) (pss_one (ps_expr (pe_bm PySem.F.plainAttrs_list PySem.F.slot_list_append PySem.F.type_list_append mt_append (pv 3) (pa_cons (pe_tup (pa_cons (pv 7) (pa_cons (pv 8) (pa_cons (pv 5) (pa_cons (pv 6) (pa_cons (pe_cd D_line_sources (hr.mono (by decide)) rfl (pa_cons (pv 1) (pa_cons (pv 2) (pa_cons (pv 4) pa_nil)))) pa_nil)))))) pa_nil)))))))) (pss_one (ps_ret (pv 3))))))), ?_⟩)
  · obtain ⟨n, L, m, rfl, _⟩ := h
    rfl
  obtain ⟨n, L, m, rfl, S, W, q⟩ := h
  refine seq_set (c_1 (v_var rfl) ⟨n, L, m, rfl, S, fun H1 pe s1 n1 h1 => ?_⟩)
  refine seq_set (c_1 (v_var rfl) ⟨n, L, m, rfl, S.same s1, W, fun H2 pt tv s2 n2 h2 ht2 => ?_⟩)
  refine seq_set (n_nil fun D nD => ?_)
  have s3 := same_upd (o := .lst []) nD
  have s12 := s1.trans s2
  have hD := s12.free nD
  have s13 := s12.trans s3
  refine seq_forE (c_1 (v_var rfl) ⟨n, L, m, rfl, S.same s13, W, fun H4 pn nv s4 n4 h4 hn4 => ⟨pn, rfl, ⟨_, SqL.of h4⟩, ?_⟩⟩)
  have dpn : pn ≠ D := fun e => by
    rw [e, upd_same] at n4
    cases n4
  have dpe : pe ≠ D := fun e => by
    rw [← e, s2 _ _ h1] at nD
    cases nD
  have dpt : pt ≠ D := fun e => by
    rw [← e, h2] at nD
    cases nD
  have ln := hn4.1
  have ll := Sv.linesNow_len m
  have el : (nameVals m).length = (Sv.linesNow m).length := by
    unfold nameVals Sv.linesNow
    rw [List.length_map, List.length_map]
  refine loopL (vs := nv) (fun i σ H' => ∃ y4 y5 y6 y7 y8, σ = [some (.ref (L 0)), some (.ref pe), some (.ref pt), some (.ref D), y4, y5, y6, y7, y8] ∧ Same H H' ∧ Same (wo D H4) (wo D H') ∧
      ∃ vs, H' D = some (.lst vs) ∧ Pt (fun v l => ∃ a b, v = .ref a ∧ H a = none ∧ H b = none ∧ wo D H' a = some (.tup [nV l.name.kind, nV l.name.number, nV l.stamp, nV (Sv.flagN l.rooted), .ref b]) ∧ wo D H' b = some (.lst (l.sources.map nV))) vs ((Sv.linesNow m).take i))
    ⟨none, none, none, none, none, rfl, s13.trans s4, Same.refl _, [], s4 _ _ upd_same, Pt.nil⟩ (fun i σ H' _ ⟨_, _, _, _, _, _, _, e, _⟩ => SqL.of (wo_sub _ _ (e _ _ (wo_some.mpr ⟨h4, dpn⟩)))) ?_ ?_
  · rintro i v σ H' hi ⟨y4, y5, y6, y7, y8, rfl, e, e4, vs, g1, g2⟩
    obtain ⟨x, hx, hv⟩ := hn4.got hi
    obtain ⟨name, hname, rfl⟩ : ∃ name, (Sv.namesNow m)[i]? = some name ∧ x = Vbxlaf.valueOf name := by
      unfold nameVals at hx
      rw [List.getElem?_map] at hx
      cases z : (Sv.namesNow m)[i]? with
      | none =>
        rw [z] at hx
        cases hx
      | some name =>
        rw [z] at hx
        exact ⟨name, rfl, (Option.some.inj hx).symm⟩
    have hk := Sv.names_kind (List.mem_of_getElem? hname)
    have S' := S.same e
    have tu : ∀ b zs, H4 b = some (.tup zs) → H' b = some (.tup zs) := fun b zs h => by
      have nb : b ≠ D := fun z => by
        rw [z, s4 _ _ upd_same] at h
        cases h
      exact wo_sub _ _ (e4 _ _ (wo_some.mpr ⟨h, nb⟩))
    have hv' : VAt K H' v (Vbxlaf.valueOf name) := hv.tups tu
    obtain ⟨av, rfl, hav⟩ := hv'.sq
    rw [valueOf_kind hk] at hav
    have hst := stampZ_name W hk
    have toH' : ∀ b o, b ≠ D → H2 b = some o → H' b = some o := fun b o nb h => wo_sub _ _ (e4 _ _ (wo_some.mpr ⟨s4 _ _ (s3 _ _ h), nb⟩))
    -- kind, number = name
    refine gN (seq_asg ⟨_, rfl, av, _, rfl, hav, rfl, _, _, rfl, _, _, rfl, rfl, ?_⟩)
    -- stamp = site.stamp_of(kind, number)
    refine seq_set (m_2 (v_var rfl) (S'.o0 (lk4 (by decide) (by decide) (by decide) (by decide))) (v_var rfl) (v_var rfl) ⟨n, L, m, _, _, rfl, S', ?_⟩)
    rw [hst]
    -- rooted = 1 if name in table[0] else 0
    obtain ⟨b0, lv0, t1, t2, t3⟩ := ht2.2 0 (by decide)
    have nb0 : b0 ≠ D := fun z => by
      rw [← z, t2] at nD
      cases nD
    have tl0 : (if 0 ∈ Sv.sourcesNow m then Sv.ledBy m 0 else []) = Sv.ledBy m 0 := by
      refine if_pos ?_
      unfold Sv.sourcesNow
      exact List.mem_cons_self ..
    dsimp only at t3
    rw [tl0] at t3
    have tu2 : ∀ b zs, H2 b = some (.tup zs) → H' b = some (.tup zs) := fun b zs h => tu b zs (s4 _ _ (s3 _ _ h))
    refine seq_set ((v_if (v := nV (Sv.flagN (decide (Vbxlaf.valueOf name ∈ Sv.ledBy m 0)))) (a_test (v_inD (v_var rfl) (v_ixN (k := 0) (v_var rfl) v_c (SqL.of (toH' _ _ dpt h2)) t1) hv' (SqL.of (toH' _ _ nb0 t2)) (t3.tups tu2))) (fun z => (v_c).to ?_) (fun z => (v_c).to ?_)) _ ?_)
    · rw [z]
      rfl
    · rw [z]
      rfl
    -- lines.append((kind, number, stamp, rooted, line_sources(entries, table, name)))
    have hent : H' pe = some (.lst ((Sv.entriesNow m).map nV)) := toH' _ _ dpe (s2 _ _ h1)
    have htab : TabV K H' tv (fun s => if s ∈ Sv.sourcesNow m then Sv.ledBy m s else []) := by
      refine ⟨ht2.1, fun j hj => ?_⟩
      obtain ⟨a, lv, k1, k2, k3⟩ := ht2.2 j hj
      have na : a ≠ D := fun z => by
        rw [← z, k2] at nD
        cases nD
      exact ⟨a, lv, k1, toH' _ _ na k2, k3.tups tu2⟩
    refine drop1 ⟨_, rfl, .inl ⟨rfl, _, SqL.of g1⟩, ⟨_, rfl, _, rfl, _, rfl, _, rfl, c_3 (v_var rfl) (v_var rfl) (v_var rfl) ⟨pe, pt, .ref av, Sv.entriesNow m, tv, _, Vbxlaf.valueOf name, rfl, hent, Nat.le_trans (Sv.entries_len m) (by decide), fun y hy => ?_, toH' _ _ dpt h2, htab, hv', fun H5 ps s5 n5 h5 => ⟨(by show 5 ≤ sizeLine; decide), fun pl nl => ?_⟩⟩⟩⟩
    · have e1 := (Sv.mem_entriesNow W).mp hy
      have := W.lv y (W.ent y e1)
      have := W.most
      omega
    have s6 := same_upd (o := .tup [nV name.kind, nV name.number, nV (Sv.stampM m name), nV (Sv.flagN (decide (Vbxlaf.valueOf name ∈ Sv.ledBy m 0))), .ref ps]) nl
    have s56 := s5.trans s6
    have lg := g2.1
    rw [List.length_take] at lg
    have dps : ps ≠ D := fun z => by
      rw [z, g1] at n5
      cases n5
    have dpl : pl ≠ D := fun z => by
      rw [z, s5 _ _ g1] at nl
      cases nl
    have srcs : ((Sv.entriesNow m).filter fun k => decide (Vbxlaf.Value.object k ≠ Vbxlaf.valueOf name) && decide (Vbxlaf.valueOf name ∈ (if k ∈ Sv.sourcesNow m then Sv.ledBy m k else []))) = (Sv.lineM m name).sources := by
      show _ = (Sv.entriesNow m).filter fun k => decide (Vbxlaf.Value.object k ≠ Vbxlaf.valueOf name) && decide (Vbxlaf.valueOf name ∈ Sv.ledBy m k)
      refine List.filter_congr fun k hk => ?_
      have hm : k ∈ Sv.sourcesNow m := by
        unfold Sv.sourcesNow
        exact List.mem_cons_of_mem _ hk
      simp only [if_pos hm]
    rw [srcs] at h5
    have q1 : (Sv.lineM m name).name = name := rfl
    have q2 : (Sv.lineM m name).stamp = Sv.stampM m name := rfl
    have q3 := rooted_is m name
    have more := lines_more hname
    generalize Sv.lineM m name = l at q1 q2 q3 h5 more
    refine ⟨D, vs, .ref pl, rfl, rfl, s56 _ _ g1, few (by omega), ?_⟩
    refine ⟨_, _, _, _, _, rfl, same_old (e.trans s56) hD, (e4.trans (wo_same s56)).trans wo_upd, vs ++ [.ref pl], upd_same, ?_⟩
    rw [more]
    have up : Same (wo D H') (wo D (upd (upd H5 pl (.tup [nV name.kind, nV name.number, nV (Sv.stampM m name), nV (Sv.flagN (decide (Vbxlaf.valueOf name ∈ Sv.ledBy m 0))), .ref ps])) D (.lst (vs ++ [.ref pl])))) := (wo_same s56).trans wo_upd
    refine Pt.snoc (g2.mono fun v l ⟨a, b, k1, k2, k3, k4, k5⟩ => ⟨a, b, k1, k2, k3, up _ _ k4, up _ _ k5⟩) ⟨pl, ps, rfl, (e.trans s5).free nl, e.free n5, wo_some.mpr ⟨?_, dpl⟩, wo_some.mpr ⟨?_, dps⟩⟩
    · rw [upd_ne dpl, q1, q2, q3]
      exact upd_same
    · rw [upd_ne dps]
      exact s6 _ _ h5
  · rintro σ H' ⟨y4, y5, y6, y7, y8, rfl, e, e4, vs, g1, g2⟩
    refine s_ret (v_var rfl) (q H' D vs e hD g1 ?_)
    rw [List.take_of_length_le (by omega)] at g2
    exact g2.mono fun v l ⟨a, b, k1, k2, k3, k4, k5⟩ => ⟨a, b, k1, k2, k3, wo_sub _ _ k4, wo_sub _ _ k5⟩
/-! ### what is affected -/
def spAny (K : PySem.W.Frag) (c : Cad) : Sp := fun vs H Q _ => ∃ n L m b, ∃ ns : List Nat, vs = [.ref (L 3), .ref b] ∧ SiteAt K c n L H m ∧ H b = some (.lst (ns.map nV)) ∧ (∀ x ∈ ns, x ≤ 40) ∧ Q (.bl (ns.any m.changed)) H
theorem ok_any_changed (F : Fun K "any_changed" "any_changed" s_any_changed f fd) (T : Txt K mg c) : FnOk P w K mg base CX0 1 f fd ["marks", "numbers"] (spAny K c) := by
  refine F.ok sc_any_changed (fun vs H Q E h => ?_) (fun cdv A outer s H vs Q E hr h => ⟨_, (pss_cons (ps_for PassesOwn.never rfl (pi_list (pv 1)) (pg_name (i := 2) sc_any_changed.nd rfl (.inl rfl)) (pss_one (ps_if (pt_val (pe_ix ix_list (pe_fld (pv 0) rfl) (pv 2) (fun _ _ => rfl))) (pss_one (ps_ret pe_b)) pss_nil))) (pss_one (ps_ret pe_b))), ?_⟩)
  · obtain ⟨n, L, m, b, ns, rfl, _⟩ := h
    rfl
  obtain ⟨n, L, m, b, ns, rfl, S, hb, h40, q⟩ := h
  refine seq_forL (v_var rfl) (SqL.of hb) (fun i σ H' => ∃ y, σ = [some (.ref (L 3)), some (.ref b), y] ∧ H' = H ∧ ∀ x ∈ ns.take i, m.changed x = false) ⟨none, rfl, rfl, fun x hx => by cases hx⟩ (fun i σ H' _ ⟨_, _, e, _⟩ => by rw [e]; exact SqL.of hb) ?_ ?_
  · rintro i y σ H' hi ⟨y2, rfl, rfl, no⟩
    obtain ⟨x, hx, rfl⟩ := nV_get hi
    have x40 := h40 x (List.mem_of_getElem? hx)
    refine gN (s_if (a_B (v_ixN (v_changed T S (v_var rfl)) (v_var rfl) (SqL.of S.c10) (tab_get (by omega)))) (fun e => ?_) (fun e => ?_))
    · have t : ns.any m.changed = true := List.any_eq_true.mpr ⟨x, List.mem_of_getElem? hx, e⟩
      rw [t] at q
      exact q
    · refine ⟨_, rfl, rfl, fun z hz => ?_⟩
      rw [take_more hx] at hz
      rcases List.mem_append.mp hz with hz | hz
      · exact no z hz
      · rw [List.mem_singleton] at hz
        rw [hz]
        exact e
  · rintro σ H' ⟨y2, rfl, rfl, no⟩
    rw [List.length_map, List.take_length] at no
    have t : ns.any m.changed = false := List.any_eq_false.mpr fun x hx => by
      rw [no x hx]
      exact Bool.false_ne_true
    rw [t] at q
    exact q
def spAff (K : PySem.W.Frag) (c : Cad) : Sp := fun vs H Q _ => ∃ n L m k, vs = [.ref (L 0), nV k] ∧ SiteAt K c n L H m ∧ Sv.Wf m ∧ k < 41 ∧ Q (.bl (Sv.affM m k)) H
theorem ok_is_affected (F : Fun K "is_affected" "is_affected" s_is_affected f fd) (T : Txt K mg c) (D_any_changed : Def P w K mg base "any_changed" ["marks", "numbers"] 1 (spAny K c)) : FnOk P w K mg base CX0 2 f fd ["site", "source"] (spAff K c) := by
  refine F.ok sc_is_affected (fun vs H Q E h => ?_) (fun cdv A outer s H vs Q E hr h => ⟨_, (pss_cons (ps_set (i := 2) sc_is_affected.nd rfl (.inl rfl) (pe_fld (pv 0) rfl)) (pss_cons (ps_if (pt_cmpR op_eq (pe_callB call_len_seq (by rfl) T.len PySem.boot_len (pa_cons (pe_fld (pv 0) rfl) pa_nil)) pe_i (nomark _)) (pss_one (ps_ret pe_b)) pss_nil) (pss_cons (ps_if (PW.pt (pw_and (pt_cmpR op_eq (pv 1) pe_i (nomark _)) (pw_and1 (pt_val (pe_fld (pv 2) rfl))))) (pss_one (ps_ret pe_b)) pss_nil) (pss_cons (ps_if (PW.pt (pw_and (pt_cmpR op_ne (pv 1) pe_i (nomark _)) (pw_and1 (pt_val (pe_ix ix_list (pe_fld (pv 2) rfl) (pv 1) (fun _ _ => rfl)))))) (pss_one (ps_ret pe_b)) pss_nil) (pss_one (ps_ret (pe_cd D_any_changed (hr.mono (by decide)) rfl (pa_cons (pv 2) (pa_cons (pe_ix ix_list (pe_fld (pv 2) rfl) (pv 1) (fun _ _ => rfl)) pa_nil))))))))), ?_⟩)
  · obtain ⟨n, L, m, k, rfl, _⟩ := h
    rfl
  obtain ⟨n, L, m, k, rfl, S, W, hk, q⟩ := h
  unfold Sv.affM at q
  refine seq_set (v_marks T S (v_var rfl) _ ?_)
  obtain ⟨sv, h1, h2⟩ := S.c4
  have l1 := h2.1
  refine seq_ret (a_test (v_eq (v_len (v_surveys T S (v_var rfl)) (SqL.of h1)) v_c)) (fun e => ?_) (fun e => ?_)
  · have e' : m.surveys = [] := by
      have := of_decide_eq_true e
      exact List.eq_nil_of_length_eq_zero (by omega)
    rw [e'] at q
    exact q
  have e' : m.surveys.isEmpty = false := by
    have := of_decide_eq_false e
    cases z : m.surveys with
    | nil =>
      rw [z] at l1
      exact absurd (by rw [l1]; rfl) this
    | cons a b => rfl
  rw [e', Bool.false_or] at q
  refine seq_ret (a_and (a_test (v_eq (v_var rfl) v_c)) (fun _ => a_B (v_sc T S (v_var rfl)))) (fun e2 => ?_) (fun e2 => ?_)
  · have e3 : k = 0 ∧ m.sc = true := by
      rw [Bool.and_eq_true] at e2
      refine ⟨?_, e2.2⟩
      have := of_decide_eq_true e2.1
      omega
    rw [decide_eq_true e3.1, e3.2] at q
    exact q
  have e3 : (decide (k = 0) && m.sc) = false := by
    rw [← e2]
    congr 1
    rw [Bool.eq_iff_iff, decide_eq_true_eq, decide_eq_true_eq]
    omega
  rw [e3, Bool.false_or] at q
  refine seq_ret (a_and (a_test (v_ne (v_var rfl) v_c)) (fun _ => a_B (v_ixN (v_fresh T S (v_var rfl)) (v_var rfl) (SqL.of S.c11) (tab_get hk)))) (fun e4 => ?_) (fun e4 => ?_)
  · have e5 : (decide (k ≠ 0) && m.fresh k) = true := by
      rw [← e4]
      congr 1
      rw [Bool.eq_iff_iff, decide_eq_true_eq]
      simp
    rw [e5] at q
    exact q
  have e5 : (decide (k ≠ 0) && m.fresh k) = false := by
    rw [← e4]
    congr 1
    rw [Bool.eq_iff_iff, decide_eq_true_eq]
    simp
  rw [e5, Bool.false_or] at q
  obtain ⟨dx, a, h3, hl⟩ := S.c3
  obtain ⟨tv2, g4, g5, g6⟩ := hl.mono off_sub
  obtain ⟨b2, g7, g8⟩ := g6 k hk
  exact ret1 (c_2 (v_var rfl) (v_ixN (v_fld (v_var rfl) h3 T.cMarks T.nled lk_here) (v_var rfl) (SqL.of g4) g7) ⟨n, L, m, b2, m.led k, rfl, S, g8, (W.ledOk k).2, q⟩)
def spListW (K : PySem.W.Frag) (c : Cad) (g : Sv.M → List Nat) : Sp := fun vs H Q _ => ∃ n L m, vs = [.ref (L 0)] ∧ SiteAt K c n L H m ∧ Sv.Wf m ∧ ∀ H' p, Same H H' → H p = none → H' p = some (.lst ((g m).map nV)) → Q (.ref p) H'
theorem ok_affected_now (F : Fun K "affected_now" "affected_now" s_affected_now f fd) (T : Txt K mg c) (D_is_affected : Def P w K mg base "is_affected" ["site", "source"] 2 (spAff K c)) (D_sources_now : Def P w K mg base "sources_now" ["site"] 2 (spSrc K c)) :
    FnOk P w K mg base CX0 3 f fd ["site"] (spListW K c Sv.affectedNow) := by
  refine F.ok sc_affected_now (fun vs H Q E h => ?_) (fun cdv A outer s H vs Q E hr h => ⟨_, (pss_one (ps_ret (pe_lc (own := [("source", 1)]) (g := gName 1) (by rfl) sc_affected_now.nd (pi_list (pe_cd D_sources_now (hr.mono (by decide)) rfl (pa_cons (pv 0) pa_nil))) (blkOk_by (N := ["site", "source"]) (sc := defScope s_affected_now) (by decide +kernel)) (fun _ _ _ _ _ => pg_name (i := 1) sc_affected_now.nd rfl (Or.inl rfl)) (fun _ _ _ _ _ => (pts_one (pt_val (pe_cd D_is_affected (hr.mono (by decide)) rfl (pa_cons (pv 0) (pa_cons (pv 1) pa_nil)))))) (fun _ _ _ _ _ => (pv 1))))), ?_⟩)
  · obtain ⟨n, L, m, rfl, _⟩ := h
    rfl
  obtain ⟨n, L, m, rfl, S, W, q⟩ := h
  refine ret1 ?_
  refine lcE (iL (c_1 (v_var rfl) ⟨n, L, m, rfl, S, fun H1 p1 s1 n1 h1 => ⟨p1, rfl, ⟨_, SqL.of h1⟩, ?_⟩⟩))
  intro D hD
  refine lc_filt (ns := Sv.sourcesNow m) (p := Sv.affM m) (SqL.of h1) hD (Nat.le_trans (sources_few m) (by decide)) (fun y H' hy e Yc Nc hY hN => ⟨rfl, ?_⟩) fun H' e h => q H' D (s1.trans e) (s1.free hD) h
  obtain ⟨i, hi⟩ := List.mem_iff_getElem?.mp hy
  have S' := S.same (s1.trans e)
  refine c_2 (v_var rfl) (v_var rfl) ⟨n, L, m, y, rfl, S', W, (source_ok W hi).1, ⟨_, rfl, ?_⟩⟩
  cases z : Sv.affM m y with
  | true => exact iteT ⟨_, rfl, hY z H' (Same.refl _)⟩
  | false => exact iteF (hN z H' (Same.refl _))
end
end Sw
end
section
set_option maxHeartbeats 1000000
namespace Sw
open PySem PySem.Spec PyProof.Rows L2
section
variable {P : Program} {w : World} {K : PySem.W.Frag} {mg : Str → Option Value} {base : Heap} {c : Cad} {f : Addr} {fd : FuncData}
/-! ### work -/
def spWork (K : PySem.W.Frag) (c : Cad) : Sp := fun vs H Q _ => ∃ n L m, vs = [.ref (L 0)] ∧ SiteAt K c n L H m ∧ Sv.Wf m ∧ ∀ H', Same H H' → Q (nV (Sv.workNow m)) H'
theorem affected_mem {m : Sv.M} (W : Sv.Wf m) {x : Nat} (h : x ∈ Sv.affectedNow m) : x = 0 ∨ 0 < m.es x := by
  unfold Sv.affectedNow at h
  obtain ⟨i, hi⟩ := List.mem_iff_getElem?.mp (List.mem_filter.mp h).1
  exact (source_ok W hi).2
theorem ok_work_now (F : Fun K "work_now" "work_now" s_work_now f fd) (T : Txt K mg c) (D_affected_now : Def P w K mg base "affected_now" ["site"] 3 (spListW K c Sv.affectedNow)) (D_objects_led : Def P w K mg base "objects_led" ["heap", "source"] 4 (spLedObj K c)) :
    FnOk P w K mg base CX0 5 f fd ["site"] (spWork K c) := by
  refine F.ok sc_work_now (fun vs H Q E h => ?_) (fun cdv A outer s H vs Q E hr h => ⟨_, (pss_cons (ps_set (i := 1) sc_work_now.nd rfl (.inl rfl) pe_i) (pss_cons (ps_for PassesOwn.never rfl (pi_list (pe_cd D_affected_now (hr.mono (by decide)) rfl (pa_cons (pv 0) pa_nil))) (pg_name (i := 2) sc_work_now.nd rfl (.inl rfl)) (pss_one (ps_aug (i := 1) sc_work_now.nd rfl (.inl rfl) (pe_callB call_len_seq (by rfl) T.len PySem.boot_len (pa_cons (pe_cd D_objects_led (hr.mono (by decide)) rfl (pa_cons (pe_fld (pv 0) rfl) (pa_cons (pv 2) pa_nil))) pa_nil)) ip_add))) (pss_one (ps_ret (pv 1))))), ?_⟩)
  · obtain ⟨n, L, m, rfl, _⟩ := h
    rfl
  obtain ⟨n, L, m, rfl, S, W, q⟩ := h
  refine seq_set ?_
  refine seq_forE (c_1 (v_var rfl) ⟨n, L, m, rfl, S, W, fun H1 p1 s1 n1 h1 => ⟨p1, rfl, ⟨_, SqL.of h1⟩, ?_⟩⟩)
  refine loopL (vs := (Sv.affectedNow m).map nV) (fun i σ H' => ∃ y, σ = [some (.ref (L 0)), some (nV (((Sv.affectedNow m).take i).foldl (fun a s => a + (Sv.objectsLed m s).length) 0)), y] ∧ Same H1 H') ⟨none, rfl, Same.refl _⟩ (fun i σ H' _ ⟨_, _, e⟩ => SqL.of (e _ _ h1)) ?_ ?_
  · rintro i y σ H' hi ⟨y2, rfl, e⟩
    obtain ⟨x, hx, rfl⟩ := nV_get hi
    have S' := S.same (s1.trans e)
    refine gN ⟨_, rfl, e_len (c_2 (v_heap T S' (v_var rfl)) (v_var rfl) ⟨n, L, m, x, rfl, S', W, affected_mem W (List.mem_of_getElem? hx), fun H2 p2 s2 n2 h2 => ⟨p2, _, rfl, .inl (SqL.of h2), _, _, rfl, rfl, ?_⟩⟩)⟩
    refine ⟨some (nV x), ?_, e.trans s2⟩
    rw [take_more hx, List.foldl_append, List.length_map]
    rfl
  · rintro σ H' ⟨y2, rfl, e⟩
    rw [List.length_map, List.take_length]
    exact s_ret (v_var rfl) (q H' (s1.trans e))
/-! ### a survey's lines -/
theorem find_first {A : Type} {p : A → Bool} {l : List A} {i : Nat} {x : A} (hi : l[i]? = some x) (no : ∀ y ∈ l.take i, p y = false) (hx : p x = true) : l.find? p = some x := by
  obtain ⟨hl, e⟩ := List.getElem?_eq_some_iff.mp hi
  have sp : l.take i ++ x :: l.drop (i + 1) = l := by
    rw [← e, ← List.drop_eq_getElem_cons hl, List.take_append_drop]
  have n1 : (l.take i).find? p = none := List.find?_eq_none.mpr fun y hy => by
    rw [no y hy]
    exact Bool.false_ne_true
  have f1 : (l.take i ++ x :: l.drop (i + 1)).find? p = some x := by
    rw [List.find?_append, n1, Option.none_or, List.find?_cons_of_pos hx]
  rw [sp] at f1
  exact f1
theorem LnAt.sq {K : PySem.W.Frag} {H : Hp} {v : V} {l : Vbxlaf.Line} (h : LnAt H v l) : ∃ a b, v = .ref a ∧ SqT K H a [nV l.name.kind, nV l.name.number, nV l.stamp, nV (Sv.flagN l.rooted), .ref b] ∧ H b = some (.lst (l.sources.map nV)) := by
  obtain ⟨a, b, h1, h2, h3⟩ := h
  exact ⟨a, b, h1, SqT.of h2, h3⟩
def spFind : Sp := fun vs H Q _ => ∃ p ws, ∃ ls : List Vbxlaf.Line, ∃ a b : Int, vs = [.ref p, .int a, .int b] ∧ H p = some (.lst ws) ∧ Pt (LnAt H) ws ls ∧ (Sv.findLine ls a b = none → Q .non H) ∧ (∀ l v, Sv.findLine ls a b = some l → LnAt H v l → Q v H)
theorem ok_find_line (F : Fun K "find_line" "find_line" s_find_line f fd) (T : Txt K mg c) : FnOk P w K mg base CX0 1 f fd ["lines", "kind", "number"] spFind := by
  refine F.ok sc_find_line (fun vs H Q E h => ?_) (fun cdv A outer s H vs Q E hr h => ⟨_, (pss_cons (ps_for PassesOwn.never rfl (pi_list (pv 0)) (pg_name (i := 3) sc_find_line.nd rfl (.inl rfl)) (pss_one (ps_if (PW.pt (pw_and (pt_cmpR op_eq (pe_ix ix_tup (pv 3) pe_i (fun _ _ => rfl)) (pv 1) (nomark _)) (pw_and1 (pt_cmpR op_eq (pe_ix ix_tup (pv 3) pe_i (fun _ _ => rfl)) (pv 2) (nomark _))))) (pss_one (ps_ret (pv 3))) pss_nil))) (pss_one (ps_ret pe_n))), ?_⟩)
  · obtain ⟨p, ws, ls, a, b, rfl, _⟩ := h
    rfl
  obtain ⟨p, ws, ls, a, b, rfl, hp, hls, q1, q2⟩ := h
  refine seq_forL (v_var rfl) (SqL.of hp) (fun i σ H' => ∃ y, σ = [some (.ref p), some (.int a), some (.int b), y] ∧ H' = H ∧ ∀ x ∈ ls.take i, (decide ((x.name.kind : Int) = a) && decide ((x.name.number : Int) = b)) = false) ⟨none, rfl, rfl, fun x hx => by cases hx⟩ (fun i σ H' _ ⟨_, _, e, _⟩ => by rw [e]; exact SqL.of hp) ?_ ?_
  · rintro i v σ H' hi ⟨y2, rfl, rfl, no⟩
    obtain ⟨l, hl, hv⟩ := hls.got hi
    obtain ⟨av, bv, rfl, k1, k2⟩ := hv.sq (K := K)
    refine gN (s_if (a_and (a_test (v_eq (v_ixT (k := 0) (v_var rfl) v_c k1 rfl) (v_var rfl))) (fun _ => a_test (v_eq (v_ixT (k := 1) (v_var rfl) v_c k1 rfl) (v_var rfl)))) (fun e => ?_) (fun e => ?_))
    · exact s_ret (v_var rfl) (q2 l _ (find_first hl no e) hv)
    · refine ⟨_, rfl, rfl, fun z hz => ?_⟩
      rw [take_more hl] at hz
      rcases List.mem_append.mp hz with hz | hz
      · exact no z hz
      · rw [List.mem_singleton] at hz
        rw [hz]
        exact e
  · rintro σ H' ⟨y2, rfl, rfl, no⟩
    rw [hls.1, List.take_length] at no
    refine q1 (List.find?_eq_none.mpr fun x hx => ?_)
    rw [no x hx]
    exact Bool.false_ne_true
theorem kindN_val {name : Vbxlaf.Name} (h : name.kind = 1 ∨ name.kind = 2) : Sv.kindN (Vbxlaf.valueOf name) = name.kind := by
  unfold Vbxlaf.valueOf
  rcases h with e | e
  · rw [if_pos e, e]
    rfl
  · rw [if_neg (by omega), e]
    rfl
theorem numN_val (name : Vbxlaf.Name) : Sv.numN (Vbxlaf.valueOf name) = name.number := by
  unfold Vbxlaf.valueOf
  split <;> rfl
theorem v_stamp {n : Nat} {L : Nat → Addr} {H : Hp} {m : Sv.M} {σ : L2.St} {te ta tb : TE} {a b : Int} (S : SiteAt K c n L H m) (h0 : Va te σ H (.ref (L 0))) (h1 : Va ta σ H (.int a)) (h2 : Va tb σ H (.int b)) :
    Va (tMeth c.Site "stamp_of" (spStamp K c) [] E0 te (tCons ta (tCons tb tNil))) σ H (nV (Sv.stampZ m a b)) := fun _ q => m_2 h0 (S.o0 (lk4 (by decide) (by decide) (by decide) (by decide))) h1 h2 ⟨n, L, m, a, b, rfl, S, q⟩
theorem v_has {n : Nat} {L : Nat → Addr} {H : Hp} {m : Sv.M} {σ : L2.St} {te ta : TE} {a : Int} (S : SiteAt K c n L H m) (h0 : Va te σ H (.ref (L 0))) (h1 : Va ta σ H (.int a)) :
    Va (tMeth c.Site "has_object" (spHas K c) [] E0 te (tCons ta tNil)) σ H (.bl (Sv.hasObj m a)) := fun _ q => m_1 h0 (S.o0 (lk4 (by decide) (by decide) (by decide) (by decide))) h1 ⟨n, L, m, a, rfl, S, q⟩
theorem v_b1 {g : Int → Bool} {H : Hp} {σ : L2.St} {ta : TE} {z : Int} (h : Va ta σ H (.int z)) : Va (tCall (spB1 g) [] E0 (tCons ta tNil)) σ H (.bl (g z)) := fun _ q => c_1 h ⟨z, rfl, q⟩
def spHasStamp (K : PySem.W.Frag) (c : Cad) : Sp := fun vs H Q _ => ∃ n L m p ws, ∃ ls : List Vbxlaf.Line, ∃ v name k, vs = [.ref (L 0), .ref p, v] ∧ SiteAt K c n L H m ∧ Sv.Wf m ∧ H p = some (.lst ws) ∧ Pt (LnAt H) ws ls ∧ VAt K H v (Vbxlaf.valueOf name) ∧ (name.kind = 1 ∨ name.kind = 2) ∧
  Sv.stampAt ls name = some k ∧ Q (.bl (Sv.hasStamp m ls name)) H
theorem ok_has_stamp_of (F : Fun K "has_stamp_of" "has_stamp_of" s_has_stamp_of f fd) (T : Txt K mg c) (D_Site_stamp_of : MDef P w K mg base c.Site "stamp_of" ["self", "kind", "number"] 1 (spStamp K c)) (D_find_line : Def P w K mg base "find_line" ["lines", "kind", "number"] 1 spFind) :
    FnOk P w K mg base CX0 2 f fd ["site", "lines", "name"] (spHasStamp K c) := by
  refine F.ok sc_has_stamp_of (fun vs H Q E h => ?_) (fun cdv A outer s H vs Q E hr h => ⟨_, (pss_cons (ps_set (i := 3) sc_has_stamp_of.nd rfl (.inl rfl) (pe_cd D_find_line (hr.mono (by decide)) rfl (pa_cons (pv 1) (pa_cons (pe_ix ix_tup (pv 2) pe_i (fun _ _ => rfl)) (pa_cons (pe_ix ix_tup (pv 2) pe_i (fun _ _ => rfl)) pa_nil))))) (pss_one (ps_ret (pe_cmpR op_eq (pe_ix ix_tup (pv 3) pe_i (fun _ _ => rfl)) (pe_md (pv 0) T.cSite D_Site_stamp_of (hr.mono (by decide)) (pa_cons (pe_ix ix_tup (pv 2) pe_i (fun _ _ => rfl)) (pa_cons (pe_ix ix_tup (pv 2) pe_i (fun _ _ => rfl)) pa_nil))) (nomark _))))), ?_⟩)
  · obtain ⟨n, L, m, p, ws, ls, v, name, k, rfl, _⟩ := h
    rfl
  obtain ⟨n, L, m, p, ws, ls, v, name, k, rfl, S, W, hp, hls, hv, hk, hst, q⟩ := h
  have e1 : Sv.findLine ls (Sv.kindN (Vbxlaf.valueOf name) : Nat) (Sv.numN (Vbxlaf.valueOf name) : Nat) = Sv.findLine ls name.kind name.number := by
    rw [kindN_val hk, numN_val]
  have e2 : Sv.stampZ m (Sv.kindN (Vbxlaf.valueOf name) : Nat) (Sv.numN (Vbxlaf.valueOf name) : Nat) = Sv.stampM m name := by
    rw [kindN_val hk, numN_val]
    exact stampZ_name W hk
  refine seq_set (c_3 (v_var rfl) (v_kind (v_var rfl) hv) (v_num (v_var rfl) hv) ⟨p, ws, ls, _, _, rfl, hp, hls, fun z => ?_, fun l v2 z hv2 => ?_⟩)
  · rw [e1] at z
    unfold Sv.stampAt at hst
    rw [z] at hst
    cases hst
  · rw [e1] at z
    obtain ⟨av, bv, rfl, k1, k2⟩ := hv2.sq (K := K)
    refine s_ret (v_eq (v_ixT (k := 2) (v_var rfl) v_c k1 rfl) (v_stamp S (v_var rfl) (v_kind (v_var rfl) hv) (v_num (v_var rfl) hv))) ?_
    rw [e2]
    have e3 : Sv.hasStamp m ls name = decide ((l.stamp : Int) = (Sv.stampM m name : Int)) := by
      unfold Sv.hasStamp Sv.stampAt
      rw [z, Bool.eq_iff_iff, decide_eq_true_iff, decide_eq_true_iff]
      constructor
      · intro h
        have h2 : l.stamp = Sv.stampM m name := Option.some.inj h
        omega
      · intro h
        have : l.stamp = Sv.stampM m name := by omega
        exact congrArg some this
    rw [e3] at q
    exact q
def spMoved (K : PySem.W.Frag) (c : Cad) : Sp := fun vs H Q _ => ∃ n L m p ws, ∃ ls : List Vbxlaf.Line, ∃ v l, vs = [.ref (L 0), .ref p, v] ∧ SiteAt K c n L H m ∧ Sv.Wf m ∧ H p = some (.lst ws) ∧ Pt (LnAt H) ws ls ∧ LnAt H v l ∧ l ∈ ls ∧ (∀ x ∈ ls, Sv.LineOk ls x) ∧
  ∀ H' v', Same H H' → VAt K H' v' (match Sv.firstMoved m ls l with | some nm => Vbxlaf.valueOf nm | none => .nothing) → (∀ nm, Sv.firstMoved m ls l = some nm → nm.kind = 1 ∨ nm.kind = 2) → Q v' H'
theorem ok_first_moved (F : Fun K "first_moved" "first_moved" s_first_moved f fd) (T : Txt K mg c) (D_has_stamp_of : Def P w K mg base "has_stamp_of" ["site", "lines", "name"] 2 (spHasStamp K c)) : FnOk P w K mg base CX0 3 f fd ["site", "lines", "line"] (spMoved K c) := by
  refine F.ok sc_first_moved (fun vs H Q E h => ?_) (fun cdv A outer s H vs Q E hr h => ⟨_, (pss_cons (ps_setLc (i := 3) (own := [("number", 5)]) (g := gName 5) (by rfl) sc_first_moved.nd rfl rfl (sw_true rfl rfl rfl (by decide +kernel)) (pi_list (pe_ix ix_tup (pv 2) pe_i (fun _ _ => rfl))) (blkOk_by (N := ["site", "lines", "line", "sources", "name", "number"]) (sc := defScope s_first_moved) (by decide +kernel)) (fun _ _ _ _ _ => pg_name (i := 5) sc_first_moved.nd rfl (Or.inl rfl)) (fun _ _ _ _ _ => pts_nil) (fun _ _ _ _ _ => (pe_tup (pa_cons (pe_gi rfl T.gOBJECT) (pa_cons (pv 5) pa_nil))))) (pss_cons (ps_for PassesOwn.never rfl (pi_list (pe_op op_cat (pe_lst (pa_cons (pe_tup (pa_cons (pe_ix ix_tup (pv 2) pe_i (fun _ _ => rfl)) (pa_cons (pe_ix ix_tup (pv 2) pe_i (fun _ _ => rfl)) pa_nil))) pa_nil)) (pv 3))) (pg_name (i := 4) sc_first_moved.nd rfl (.inl rfl)) (pss_one (ps_if (pt_not (pt_val (pe_cd D_has_stamp_of (hr.mono (by decide)) rfl (pa_cons (pv 0) (pa_cons (pv 1) (pa_cons (pv 4) pa_nil)))))) (pss_one (ps_ret (pv 4))) pss_nil))) (pss_one (ps_ret (pe_gr rfl T.gNOTHING))))), ?_⟩)
  · obtain ⟨n, L, m, p, ws, ls, v, l, rfl, _⟩ := h
    rfl
  obtain ⟨n, L, m, p, ws, ls, v, l, rfl, S, W, hp, hls, hv, hl, ok, q⟩ := h
  obtain ⟨av, bv, rfl, k1, k2⟩ := hv.sq (K := K)
  have okl := ok l hl
  refine seq_set ?_
  refine lcE (iL (v_ixT (k := 4) (v_var rfl) v_c k1 rfl _ ⟨bv, rfl, ⟨_, SqL.of k2⟩, ?_⟩))
  intro D hD
  refine lc_tups (g := Vbxlaf.Value.object) enc_obj (SqL.of k2) hD (Nat.le_trans okl.few (by decide)) (fun y => rfl) (fun y => rfl) fun H1 sv s1 h1 hv1 => ?_
  have k1' := sqT_same s1 k1
  refine seq_forE (e_op (e_L1 (n_t2 (v_ixT (k := 0) (v_var rfl) v_c k1' rfl) (v_ixT (k := 1) (v_var rfl) v_c k1' rfl) fun t nt => ⟨(by show 1 ≤ sizeLine; decide), fun l1 nl1 => ⟨_, rfl, ?_⟩⟩)))
  have s2 := same_upd (o := .tup [nV l.name.kind, nV l.name.number]) nt
  have s3 := same_upd (o := .lst [.ref t]) nl1
  have s23 := s2.trans s3
  have lv := hv1.1
  rw [List.length_map] at lv
  have f40 := okl.few
  refine ⟨l1, D, [.ref t], sv, rfl, rfl, upd_same, s23 _ _ h1, few' (by show 1 + sv.length ≤ 100000; omega), fun y ny => ⟨y, rfl, ⟨_, SqL.of upd_same⟩, ?_⟩⟩
  have s4 := same_upd (o := .lst ([.ref t] ++ sv)) ny
  have s14 := (s1.trans s23).trans s4
  generalize eH : upd (upd (upd H1 t (.tup [nV l.name.kind, nV l.name.number])) l1 (.lst [.ref t])) y (.lst ([.ref t] ++ sv)) = H2 at s4 s14
  have hy : H2 y = some (.lst ([.ref t] ++ sv)) := by
    rw [← eH]
    exact upd_same
  have ht : VAt K H2 (.ref t) (Vbxlaf.valueOf l.name) := VAt.new (by
    refine s4 _ _ (s3 _ _ ?_)
    rw [valueOf_kind okl.kind]
    exact upd_same)
  obtain ⟨names, en⟩ : ∃ names, names = l.name :: l.sources.map fun k => (⟨1, k⟩ : Vbxlaf.Name) := ⟨_, rfl⟩
  have hN : VsAt K H2 ([.ref t] ++ sv) (names.map Vbxlaf.valueOf) := by
    have e : names.map Vbxlaf.valueOf = [Vbxlaf.valueOf l.name] ++ l.sources.map Vbxlaf.Value.object := by
      rw [en, List.map_cons, List.map_map]
      rfl
    rw [e]
    exact (Pt.one ht).append (hv1.mono (s23.trans s4))
  have hn2 : ∀ nm ∈ names, (nm.kind = 1 ∨ nm.kind = 2) ∧ ∃ k, 0 < k ∧ Sv.stampAt ls nm = some k := by
    intro nm hm
    rw [en] at hm
    rcases List.mem_cons.mp hm with rfl | hm
    · exact ⟨okl.kind, Sv.has_line ⟨l, hl, rfl⟩ ok⟩
    · obtain ⟨k, hk, rfl⟩ := List.mem_map.mp hm
      exact ⟨.inl rfl, Sv.has_line (okl.src k hk) ok⟩
  have eF : Sv.firstMoved m ls l = names.find? fun nm => !Sv.hasStamp m ls nm := by
    rw [en]
    rfl
  have ln : ([V.ref t] ++ sv).length = names.length := by
    rw [hN.1, List.length_map]
  refine loopL (vs := [.ref t] ++ sv) (fun i σ H' => ∃ y5 y6, σ = [some (.ref (L 0)), some (.ref p), some (.ref av), some (.ref D), y5, y6] ∧ H' = H2 ∧ ∀ nm ∈ names.take i, (!Sv.hasStamp m ls nm) = false) ⟨none, none, rfl, rfl, fun x hx => by cases hx⟩ (fun i σ H' _ ⟨_, _, _, e, _⟩ => by rw [e]; exact SqL.of hy) ?_ ?_
  · rintro i v2 σ H' hi ⟨y5, y6, rfl, rfl, no⟩
    obtain ⟨x, hx, hvx⟩ := hN.got hi
    obtain ⟨nm, hnm, rfl⟩ : ∃ nm, names[i]? = some nm ∧ x = Vbxlaf.valueOf nm := by
      rw [List.getElem?_map] at hx
      cases z : names[i]? with
      | none =>
        rw [z] at hx
        cases hx
      | some nm =>
        rw [z] at hx
        exact ⟨nm, rfl, (Option.some.inj hx).symm⟩
    obtain ⟨hk, k, _, hst⟩ := hn2 nm (List.mem_of_getElem? hnm)
    have va : Va (tCall (spHasStamp K c) [] E0 (tCons (tVar 0) (tCons (tVar 1) (tCons (tVar 4) tNil)))) ([some (.ref (L 0)), some (.ref p), some (.ref av), some (.ref D), some v2, y6]) H' (.bl (Sv.hasStamp m ls nm)) := fun Q' q' =>
      c_3 (v_var rfl) (v_var rfl) (v_var rfl) ⟨n, L, m, p, ws, ls, v2, nm, k, rfl, S.same s14, W, s14 _ _ hp, hls.mono fun _ _ z => z.mono s14, hvx, hk, hst, q'⟩
    refine gN (s_if (a_not (a_B va)) (fun e => ?_) (fun e => ?_))
    · have ef := find_first (p := fun nm => !Sv.hasStamp m ls nm) hnm no e
      refine s_ret (v_var rfl) (q H' v2 s14 ?_ fun nm2 h2 => ?_)
      · rw [eF, ef]
        exact hvx
      · rw [eF, ef] at h2
        cases h2
        exact hk
    · refine ⟨_, _, rfl, rfl, fun z hz => ?_⟩
      rw [take_more hnm] at hz
      rcases List.mem_append.mp hz with hz | hz
      · exact no z hz
      · rw [List.mem_singleton] at hz
        rw [hz]
        exact e
  · rintro σ H' ⟨y5, y6, rfl, rfl, no⟩
    rw [ln, List.take_length] at no
    have ef : names.find? (fun nm => !Sv.hasStamp m ls nm) = none := List.find?_eq_none.mpr fun x hx => by
      rw [no x hx]
      exact Bool.false_ne_true
    refine (show Q (V.ref c.nothing) H' from q H' _ s14 ?_ fun nm2 h2 => ?_)
    · rw [eF, ef]
      exact nothing_at T H'
    · rw [eF, ef] at h2
      cases h2
end
end Sw
end
section
set_option maxHeartbeats 1000000
namespace Sw
open PySem PySem.Spec PyProof.Rows L2
section
variable {P : Program} {w : World} {K : PySem.W.Frag} {mg : Str → Option Value} {base : Heap} {c : Cad} {f : Addr} {fd : FuncData}
/-! ### what an operation hands back -/
/-- a new list of the answer's numbers, the site behind it -/
def Got (K : PySem.W.Frag) (c : Cad) (n : Nat) (L : Nat → Addr) (H : Hp) (r : Sv.M × List Int) (Q : VK) : Prop := ∀ L' H' p, SiteAt K c n L' H' r.1 → Fr n L H L' H' → ¬ Foot n L' p → H' p = some (.lst (r.2.map V.int)) → Q (.ref p) H'
def spO0 (K : PySem.W.Frag) (c : Cad) (g : Sv.M → Sv.M × List Int) : Sp := fun vs H Q _ => ∃ n L m, vs = [.ref (L 0)] ∧ SiteAt K c n L H m ∧ Sv.Wf m ∧ Got K c n L H (g m) Q
def spO1 (K : PySem.W.Frag) (c : Cad) (g : Sv.M → Int → Sv.M × List Int) : Sp := fun vs H Q _ => ∃ n L m a, vs = [.ref (L 0), .int a] ∧ SiteAt K c n L H m ∧ Sv.Wf m ∧ Got K c n L H (g m a) Q
def spO2 (K : PySem.W.Frag) (c : Cad) (g : Sv.M → Int → Int → Sv.M × List Int) : Sp := fun vs H Q _ => ∃ n L m a b, vs = [.ref (L 0), .int a, .int b] ∧ SiteAt K c n L H m ∧ Sv.Wf m ∧ Got K c n L H (g m a b) Q
def spO3 (K : PySem.W.Frag) (c : Cad) (g : Sv.M → Int → Int → Int → Sv.M × List Int) : Sp := fun vs H Q _ => ∃ n L m a b d, vs = [.ref (L 0), .int a, .int b, .int d] ∧ SiteAt K c n L H m ∧ Sv.Wf m ∧ Got K c n L H (g m a b d) Q
theorem spO0_len {g : Sv.M → Sv.M × List Int} : ∀ vs H Q E, spO0 K c g vs H Q E → vs.length = 1 := fun vs H Q E h => by
  obtain ⟨n, L, m, rfl, _⟩ := h
  rfl
theorem spO1_len {g : Sv.M → Int → Sv.M × List Int} : ∀ vs H Q E, spO1 K c g vs H Q E → vs.length = 2 := fun vs H Q E h => by
  obtain ⟨n, L, m, a, rfl, _⟩ := h
  rfl
theorem spO2_len {g : Sv.M → Int → Int → Sv.M × List Int} : ∀ vs H Q E, spO2 K c g vs H Q E → vs.length = 3 := fun vs H Q E h => by
  obtain ⟨n, L, m, a, b, rfl, _⟩ := h
  rfl
theorem spO3_len {g : Sv.M → Int → Int → Int → Sv.M × List Int} : ∀ vs H Q E, spO3 K c g vs H Q E → vs.length = 4 := fun vs H Q E h => by
  obtain ⟨n, L, m, a, b, d, rfl, _⟩ := h
  rfl
/-- nothing has changed: the list is laid -/
theorem Got.pure {n : Nat} {L : Nat → Addr} {H H1 : Hp} {m : Sv.M} {out : List Int} {Q : VK} {p : Addr} (q : Got K c n L H (m, out) Q) (S : SiteAt K c n L H m) (e : Same H H1) (np : H1 p = none) : Q (.ref p) (upd H1 p (.lst (out.map V.int))) :=
  q L _ p (S.same (e.trans (same_upd np))) (Fr.ofSame S (e.trans (same_upd np))) (S.new (e.free np)) upd_same
/-- .. the list is there -/
theorem Got.at {n : Nat} {L : Nat → Addr} {H H1 : Hp} {m : Sv.M} {out : List Int} {Q : VK} {p : Addr} (q : Got K c n L H (m, out) Q) (S : SiteAt K c n L H m) (e : Same H H1) (np : H p = none) (h : H1 p = some (.lst (out.map V.int))) : Q (.ref p) H1 :=
  q L _ p (S.same e) (Fr.ofSame S e) (S.new np) h
theorem n_l3 {ta tb td : TE} {x y z : V} {σ : L2.St} {H : Hp} {Q : VK} (ha : Va ta σ H x) (hb : Va tb σ H y) (hd : Va td σ H z) (q : ∀ p, H p = none → Q (.ref p) (upd H p (.lst [x, y, z]))) : tLst (tCons ta (tCons tb (tCons td tNil))) σ H Q := ha _ (hb _ (hd _ ⟨(by show 3 ≤ sizeLine; decide), q⟩))
theorem n_l4 {ta tb td te : TE} {x y z v : V} {σ : L2.St} {H : Hp} {Q : VK} (ha : Va ta σ H x) (hb : Va tb σ H y) (hd : Va td σ H z) (he : Va te σ H v) (q : ∀ p, H p = none → Q (.ref p) (upd H p (.lst [x, y, z, v]))) :
    tLst (tCons ta (tCons tb (tCons td (tCons te tNil)))) σ H Q := ha _ (hb _ (hd _ (he _ ⟨(by show 4 ≤ sizeLine; decide), q⟩)))
theorem n_l5 {ta tb td te tf : TE} {x y z v u : V} {σ : L2.St} {H : Hp} {Q : VK} (ha : Va ta σ H x) (hb : Va tb σ H y) (hd : Va td σ H z) (he : Va te σ H v) (hf : Va tf σ H u) (q : ∀ p, H p = none → Q (.ref p) (upd H p (.lst [x, y, z, v, u]))) :
    tLst (tCons ta (tCons tb (tCons td (tCons te (tCons tf tNil))))) σ H Q := ha _ (hb _ (hd _ (he _ (hf _ ⟨(by show 5 ≤ sizeLine; decide), q⟩))))
theorem e_m2 {C p : Addr} {fl : Str} {sp : Sp} {te ta tb : TE} {x : V} {σ : L2.St} {H : Hp} {Q : VK} (ho : Va te σ H (.ref p)) (h0 : ObjC H C fl p) (ha : Va ta σ H x) (h : tb σ H fun y H1 => sp [.ref p, x, y] H1 Q E0) : tMeth C fl sp [] E0 te (tCons ta (tCons tb tNil)) σ H Q := by
  obtain ⟨dx, fs, h1, h2⟩ := h0
  exact ho _ ⟨p, dx, fs, rfl, h1, h2, ha _ h⟩
theorem ints_map (l : List Nat) : (Sv.intL l).map V.int = l.map nV := by
  unfold Sv.intL
  rw [List.map_map]
  rfl
theorem nb_t {b : Bool} (h : (!b) = true) : b = false := by
  cases b
  · rfl
  · cases h
theorem nb_f {b : Bool} (h : (!b) = false) : b = true := by
  cases b
  · cases h
  · rfl
/-! ### surveys -/
theorem ok_make_survey (F : Fun K "make_survey" "make_survey" s_make_survey f fd) (T : Txt K mg c) (D_Site_keep : MDef P w K mg base c.Site "keep" ["self", "lines", "led"] 3 (spKeep K c)) (D_lines_now : Def P w K mg base "lines_now" ["site"] 5 (spLines K c))
    (D_objects_table : Def P w K mg base "objects_table" ["site"] 5 (spTabN K c)) (D_work_now : Def P w K mg base "work_now" ["site"] 5 (spWork K c)) :
    FnOk P w K mg base CX0 6 f fd ["site"] (spO0 K c Sv.opUpdate) := by
  refine F.ok sc_make_survey spO0_len (fun cdv A outer s H vs Q E hr h => ⟨_, (pss_cons (ps_if (pt_cmpR op_ge (pe_callB call_len_seq (by rfl) T.len PySem.boot_len (pa_cons (pe_fld (pv 0) rfl) pa_nil)) (pe_gi rfl T.gMOST_SURVEYS) (nomark _)) (pss_one (ps_ret (pe_lst (pa_cons (pe_gi rfl T.gTOO_MANY) pa_nil)))) pss_nil) (pss_cons (ps_set (i := 1) sc_make_survey.nd rfl (.inl rfl) (pe_cd D_work_now (hr.mono (by decide)) rfl (pa_cons (pv 0) pa_nil))) (pss_cons (ps_set (i := 2) sc_make_survey.nd rfl (.inl rfl) (pe_cd D_lines_now (hr.mono (by decide)) rfl (pa_cons (pv 0) pa_nil))) (pss_cons (ps_expr (pe_md (pv 0) T.cSite D_Site_keep (hr.mono (by decide)) (pa_cons (pv 2) (pa_cons (pe_cd D_objects_table (hr.mono (by decide)) rfl (pa_cons (pv 0) pa_nil)) pa_nil)))) (pss_one (ps_ret (pe_lst (pa_cons (pe_callB call_len_seq (by rfl) T.len PySem.boot_len (pa_cons (pe_fld (pv 0) rfl) pa_nil)) (pa_cons (pv 1) (pa_cons (pe_callB call_len_seq (by rfl) T.len PySem.boot_len (pa_cons (pv 2) pa_nil)) pa_nil)))))))))), ?_⟩)
  obtain ⟨n, L, m, rfl, S, W, q⟩ := h
  obtain ⟨sv, h1, h2⟩ := S.c4
  have l1 := h2.1
  unfold Sv.opUpdate at q
  refine seq_ret (a_test (v_ge (v_len (v_surveys T S (v_var rfl)) (SqL.of h1)) v_c)) (fun e => ?_) (fun e => ?_)
  · have e' : 30 ≤ m.surveys.length := by
      have := of_decide_eq_true e
      omega
    rw [if_pos e'] at q
    exact n_l1 v_c fun p np => q.pure S (Same.refl _) np
  have e' : ¬ 30 ≤ m.surveys.length := by
    have := of_decide_eq_false e
    omega
  rw [if_neg e'] at q
  refine seq_set (c_1 (v_var rfl) ⟨n, L, m, rfl, S, W, fun H1 s1 => ?_⟩)
  refine seq_set (c_1 (v_var rfl) ⟨n, L, m, rfl, S.same s1, W, fun H2 p2 lv s2 n2 k2 hl2 => ?_⟩)
  have S2 := S.same (s1.trans s2)
  refine seq_drop (e_m2 (v_var rfl) (S2.o0 (lk4 (by decide) (by decide) (by decide) (by decide))) (v_var rfl) (c_1 (v_var rfl) ⟨n, L, m, rfl, S2, W, fun H3 p3 tv s3 n3 k3 ht3 hb3 => ?_⟩))
  have S3 := S2.same s3
  have S1 := S.same s1
  have fr : ∀ b, H1 b = none → ¬ Foot n L b := fun b hb => S1.new hb
  have fr2 : ∀ b, H2 b = none → ¬ Foot n L b := fun b hb => S2.new hb
  have hln : LinesAt (off n L H3) (.ref p2) (Sv.linesNow m) := ⟨p2, lv, rfl, off_some.mpr ⟨s3 _ _ k2, fr _ n2⟩, hl2.mono fun v l ⟨a, b, e1, na, nb, ha, hb⟩ => ⟨a, b, e1, off_some.mpr ⟨s3 _ _ ha, fr _ na⟩, off_some.mpr ⟨s3 _ _ hb, fr _ nb⟩⟩⟩
  have hld : LedAt (off n L H3) p3 (fun s => if s ∈ Sv.sourcesNow m then Sv.objectsLed m s else []) := by
    refine ⟨tv, off_some.mpr ⟨k3, fr2 _ n3⟩, ht3.1, fun i hi => ?_⟩
    obtain ⟨a, g1, g2⟩ := ht3.2 i hi
    exact ⟨a, g1, off_some.mpr ⟨wo_sub _ _ g2, fr2 _ (hb3 i a hi g1)⟩⟩
  refine ⟨n, L, m, .ref p2, p3, _, _, rfl, S3, by omega, hln, hld, fun L4 H4 S4 F4 => ?_⟩
  obtain ⟨sv4, g1, g2⟩ := S4.c4
  have z := F4.zero
  have k4 : H4 p2 = some (.lst lv) := off_sub _ _ (F4.same _ _ (off_some.mpr ⟨s3 _ _ k2, fr _ n2⟩))
  have l4 := g2.1
  have l5 := hl2.1
  refine ret1 (n_l3 (v_len (v_surveys T S4 (by rw [z]; exact v_var rfl)) (SqL.of g1)) (v_var rfl) (v_len (v_var rfl) (SqL.of k4)) fun p np => ?_)
  have s5 := same_upd (o := .lst [nV sv4.length, nV (Sv.workNow m), nV lv.length]) np
  refine q L4 _ p (S4.same s5) (((Fr.ofSame S ((s1.trans s2).trans s3)).trans F4).trans (Fr.ofSame S4 s5)) (S4.new np) ?_
  rw [upd_same, l4, l5, List.length_append]
  rfl
def spHasSurvey (K : PySem.W.Frag) (c : Cad) : Sp := fun vs H Q _ => ∃ n L m z, vs = [.ref (L 0), .int z] ∧ SiteAt K c n L H m ∧ Q (.bl (decide (1 ≤ z) && decide (z ≤ (m.surveys.length : Int)))) H
theorem ok_has_survey (F : Fun K "has_survey" "has_survey" s_has_survey f fd) (T : Txt K mg c) : FnOk P w K mg base CX0 1 f fd ["site", "index"] (spHasSurvey K c) := by
  refine F.ok sc_has_survey (fun vs H Q E h => ?_) (fun cdv A outer s H vs Q E hr h => ⟨_, (pss_one (ps_ret (pe_chain op_le op_le pe_i (pv 1) (pe_callB call_len_seq (by rfl) T.len PySem.boot_len (pa_cons (pe_fld (pv 0) rfl) pa_nil))))), ?_⟩)
  · obtain ⟨n, L, m, z, rfl, _⟩ := h
    rfl
  obtain ⟨n, L, m, z, rfl, S, q⟩ := h
  obtain ⟨sv, h1, h2⟩ := S.c4
  refine s_ret (rd_chain v_c (v_var rfl) (v_len (v_surveys T S (v_var rfl)) (SqL.of h1))) ?_
  rw [h2.1]
  exact q
theorem v_hasS {n : Nat} {L : Nat → Addr} {H : Hp} {m : Sv.M} {σ : L2.St} {te ta : TE} {z : Int} (S : SiteAt K c n L H m) (h0 : Va te σ H (.ref (L 0))) (h1 : Va ta σ H (.int z)) :
    Va (tCall (spHasSurvey K c) [] E0 (tCons te (tCons ta tNil))) σ H (.bl (decide (1 ≤ z) && decide (z ≤ (m.surveys.length : Int)))) := fun _ q => c_2 h0 h1 ⟨n, L, m, z, rfl, S, q⟩
theorem surveyAt_some {m : Sv.M} {z : Int} (h : (decide (1 ≤ z) && decide (z ≤ (m.surveys.length : Int))) = true) : ∃ ls, Sv.surveyAt m z = some ls ∧ m.surveys[(z - 1).toNat]? = some ls := by
  rw [Bool.and_eq_true, decide_eq_true_eq, decide_eq_true_eq] at h
  unfold Sv.surveyAt
  rw [if_pos h]
  have hl : (z - 1).toNat < m.surveys.length := by omega
  exact ⟨_, List.getElem?_eq_getElem hl, List.getElem?_eq_getElem hl⟩
theorem surveyAt_none {m : Sv.M} {z : Int} (h : (decide (1 ≤ z) && decide (z ≤ (m.surveys.length : Int))) = false) : Sv.surveyAt m z = none := by
  unfold Sv.surveyAt
  rw [if_neg fun e => ?_]
  rw [decide_eq_true e.1, decide_eq_true e.2] at h
  cases h
theorem flat_more {A : Type} {g : A → List Int} {l : List A} {i : Nat} {x : A} (h : l[i]? = some x) : (l.take (i + 1)).flatMap g = (l.take i).flatMap g ++ g x := by
  rw [take_more h, List.flatMap_append]
  simp
theorem flat_len {A : Type} {g : A → List Int} {k : Nat} : ∀ (l : List A), (∀ x ∈ l, (g x).length ≤ k) → (l.flatMap g).length ≤ k * l.length
  | [], _ => Nat.zero_le _
  | a :: l, h => by
    have h1 := flat_len l fun x hx => h x (List.mem_cons_of_mem _ hx)
    have h2 := h a (List.mem_cons_self ..)
    rw [List.flatMap_cons, List.length_append, List.length_cons, Nat.mul_add, Nat.mul_one]
    omega
theorem ok_show_survey (F : Fun K "show_survey" "show_survey" s_show_survey f fd) (T : Txt K mg c) (D_has_survey : Def P w K mg base "has_survey" ["site", "index"] 1 (spHasSurvey K c)) : FnOk P w K mg base CX0 2 f fd ["site", "index"] (spO1 K c fun m z => (m, Sv.outSurvey m z)) := by
  refine F.ok sc_show_survey spO1_len (fun cdv A outer s H vs Q E hr h => ⟨_, (pss_cons (ps_if (pt_not (pt_val (pe_cd D_has_survey (hr.mono (by decide)) rfl (pa_cons (pv 0) (pa_cons (pv 1) pa_nil))))) (pss_one (ps_ret (pe_lst (pa_cons (pe_gi rfl T.gNO_SURVEY) pa_nil)))) pss_nil) (pss_cons (ps_set (i := 2) sc_show_survey.nd rfl (.inl rfl) (pe_ix ix_list (pe_fld (pv 0) rfl) (pe_op op_sub (pv 1) pe_i) (fun _ _ => rfl))) (pss_cons (ps_set (i := 3) sc_show_survey.nd rfl (.inl rfl) (pe_lst (pa_cons (pe_callB call_len_seq (by rfl) T.len PySem.boot_len (pa_cons (pv 2) pa_nil)) pa_nil))) (pss_cons (ps_for PassesOwn.never rfl (pi_list (pv 2)) (pg_tup rfl (pgs_cons (pg_name (i := 4) sc_show_survey.nd rfl (.inl rfl)) (pgs_cons (pg_name (i := 5) sc_show_survey.nd rfl (.inl rfl)) (pgs_cons (pg_name (i := 6) sc_show_survey.nd rfl (.inl rfl)) (pgs_cons (pg_name (i := 7) sc_show_survey.nd rfl (.inl rfl)) (pgs_cons (pg_name (i := 8) sc_show_survey.nd rfl (.inl rfl)) pgs_nil)))))) (pss_cons (ps_expr (pe_bm PySem.F.plainAttrs_list PySem.F.slot_list_extend PySem.F.type_list_extend mt_extend (pv 3) (pa_cons (pe_lst (pa_cons (pv 4) (pa_cons (pv 5) (pa_cons (pv 6) (pa_cons (pv 7) (pa_cons (pe_callB call_len_seq (by rfl) T.len PySem.boot_len (pa_cons (pv 8) pa_nil)) pa_nil)))))) pa_nil))) (pss_one (ps_expr (pe_bm PySem.F.plainAttrs_list PySem.F.slot_list_extend PySem.F.type_list_extend mt_extend (pv 3) (pa_cons (pv 8) pa_nil)))))) (pss_one (ps_ret (pv 3))))))), ?_⟩)
  obtain ⟨n, L, m, z, rfl, S, W, q0⟩ := h
  have q : Got K c n L H (m, Sv.outSurvey m z) Q := q0
  refine seq_ret (a_not (a_B (v_hasS S (v_var rfl) (v_var rfl)))) (fun e => ?_) (fun e => ?_)
  · have e' := nb_t e
    unfold Sv.outSurvey at q
    rw [surveyAt_none e'] at q
    exact n_l1 v_c fun p np => q.pure S (Same.refl _) np
  have e' := nb_f e
  obtain ⟨ls, hs, hi⟩ := surveyAt_some e'
  have z1 : 1 ≤ z := by
    rw [Bool.and_eq_true, decide_eq_true_eq] at e'
    exact e'.1
  unfold Sv.outSurvey at q
  rw [hs] at q
  have wl := W.lns ls (List.mem_of_getElem? hi)
  obtain ⟨sv, h1, h2⟩ := S.c4
  obtain ⟨v, hv, a, ws, rfl, h3, h4⟩ := h2.get hi
  have h3' := off_sub _ _ h3
  have h4' : Pt (LnAt H) ws ls := h4.mono fun _ _ y => y.mono off_sub
  have l4 := h4.1
  refine seq_set (v_ix (v_surveys T S (v_var rfl)) (v_sub (v_var rfl) v_c) (SqL.of h1) (by omega) hv _ ?_)
  refine seq_set (n_l1 (v_len (v_var rfl) (SqL.of h3')) fun D nD => ?_)
  have s1 := same_upd (o := .lst [nV ws.length]) nD
  have fl : ∀ i, ((ls.take i).flatMap Sv.lineS).length ≤ 45 * (ls.take i).length := fun i => flat_len _ fun x hx => by
    have := (wl.2 x (List.mem_of_mem_take hx)).few
    unfold Sv.lineS Sv.intL
    rw [List.length_append, List.length_map]
    show 5 + _ ≤ 45
    omega
  refine seq_forL (v_var rfl) (SqL.of (s1 _ _ h3')) (fun i σ H' => ∃ y1 y2 y3 y4 y5, σ = [some (.ref (L 0)), some (.int z), some (.ref a), some (.ref D), y1, y2, y3, y4, y5] ∧ Same H H' ∧ H' D = some (.lst (((ls.length : Int) :: (ls.take i).flatMap Sv.lineS).map V.int)))
    ⟨none, none, none, none, none, rfl, s1, by rw [upd_same, l4]; rfl⟩ (fun i σ H' _ ⟨_, _, _, _, _, _, e, _⟩ => SqL.of (e _ _ h3')) ?_ ?_
  · rintro i v2 σ H' hi2 ⟨y1, y2, y3, y4, y5, rfl, e2, g1⟩
    obtain ⟨l, hl, av, bv, rfl, k1, k2⟩ := h4'.got hi2
    have dD : bv ≠ D := ne_of_none k2 nD
    have k1' := SqT.of (K := K) (e2 _ _ k1)
    have k2' := e2 _ _ k2
    have f40 := (wl.2 l (List.mem_of_getElem? hl)).few
    have fi := fl i
    rw [List.length_take] at fi
    have l60 := wl.1
    refine ⟨av, _, rfl, k1', rfl, _, _, rfl, _, _, rfl, _, _, rfl, _, _, rfl, _, _, rfl, rfl, ?_⟩
    refine seq_drop ⟨_, rfl, .inl ⟨rfl, _, SqL.of g1⟩, n_l5 (v_var rfl) (v_var rfl) (v_var rfl) (v_var rfl) (v_len (v_var rfl) (SqL.of k2')) fun t nt => ?_⟩
    have s2 := same_upd (o := .lst [nV l.name.kind, nV l.name.number, nV l.stamp, nV (Sv.flagN l.rooted), nV (l.sources.map nV).length]) nt
    refine ⟨D, t, _, _, rfl, rfl, s2 _ _ g1, upd_same, few' (by rw [List.length_map, List.length_cons]; show _ + 5 ≤ _; omega), ?_⟩
    refine drop1 ⟨_, rfl, .inl ⟨rfl, _, SqL.of upd_same⟩, _, rfl, D, bv, _, _, rfl, rfl, upd_same, (by rw [upd_ne dD]; exact s2 _ _ k2'), few' (by rw [List.length_append, List.length_map, List.length_map, List.length_cons]; show _ + 5 + _ ≤ _; omega), ?_⟩
    refine ⟨_, _, _, _, _, rfl, same_old (same_old (e2.trans s2) nD) nD, ?_⟩
    rw [upd_same, flat_more hl, List.length_map]
    simp only [Sv.lineS, List.map_append, List.map_cons, List.map_nil, List.cons_append, List.nil_append, List.append_assoc, ints_map]
    rfl
  · rintro σ H' ⟨y1, y2, y3, y4, y5, rfl, e2, g1⟩
    rw [l4, List.take_length] at g1
    exact s_ret (v_var rfl) (q.at S e2 nD g1)
end
end Sw
end
section
set_option maxHeartbeats 1000000
namespace Sw
open PySem PySem.Spec PyProof.Rows L2
section
variable {P : Program} {w : World} {K : PySem.W.Frag} {mg : Str → Option Value} {base : Heap} {c : Cad} {f : Addr} {fd : FuncData}
theorem e_l {t : TA} {σ : L2.St} {H : Hp} {Q : VK} (h : t σ H fun xs H1 => xs.length ≤ sizeLine ∧ ∀ p, H1 p = none → Q (.ref p) (upd H1 p (.lst xs))) : tLst t σ H Q := h
theorem e_cons {ta : TE} {tr : TA} {σ : L2.St} {H : Hp} {Q : List V → Hp → Prop} (h : ta σ H fun x H1 => tr σ H1 fun xs H2 => Q (x :: xs) H2) : tCons ta tr σ H Q := h
theorem e_nil {σ : L2.St} {H : Hp} {Q : List V → Hp → Prop} (h : Q [] H) : tNil σ H Q := h
theorem ok_tell_current (F : Fun K "tell_current" "tell_current" s_tell_current f fd) (T : Txt K mg c) (D_find_line : Def P w K mg base "find_line" ["lines", "kind", "number"] 1 spFind) (D_first_moved : Def P w K mg base "first_moved" ["site", "lines", "line"] 3 (spMoved K c)) (D_has_survey : Def P w K mg base "has_survey" ["site", "index"] 1 (spHasSurvey K c))
    (D_is_kind : Def P w K mg base "is_kind" ["number"] 1 (spB1 Sv.kindOk)) : FnOk P w K mg base CX0 4 f fd ["site", "index", "kind", "number"] (spO3 K c fun m i k n => (m, Sv.outCurrent m i k n)) := by
  refine F.ok sc_tell_current spO3_len (fun cdv A outer s H vs Q E hr h => ⟨_, (pss_cons (ps_if (pt_not (pt_val (pe_cd D_is_kind (hr.mono (by decide)) rfl (pa_cons (pv 2) pa_nil)))) (pss_one (ps_ret (pe_lst (pa_cons (pe_gi rfl T.gOUT_OF_RANGE) pa_nil)))) pss_nil) (pss_cons (ps_if (pt_not (pt_val (pe_cd D_has_survey (hr.mono (by decide)) rfl (pa_cons (pv 0) (pa_cons (pv 1) pa_nil))))) (pss_one (ps_ret (pe_lst (pa_cons (pe_gi rfl T.gNO_SURVEY) pa_nil)))) pss_nil) (pss_cons (ps_set (i := 4) sc_tell_current.nd rfl (.inl rfl) (pe_ix ix_list (pe_fld (pv 0) rfl) (pe_op op_sub (pv 1) pe_i) (fun _ _ => rfl))) (pss_cons (ps_set (i := 5) sc_tell_current.nd rfl (.inl rfl) (pe_cd D_find_line (hr.mono (by decide)) rfl (pa_cons (pv 4) (pa_cons (pv 2) (pa_cons (pv 3) pa_nil))))) (pss_cons (ps_if (pt_cmpR op_isN (pv 5) pe_n (nomark _)) (pss_one (ps_ret (pe_lst (pa_cons (pe_gi rfl T.gNOT_THERE) pa_nil)))) pss_nil) (pss_cons (ps_if (pt_cmpR op_eq (pe_ix ix_tup (pv 5) pe_i (fun _ _ => rfl)) pe_i (nomark _)) (pss_one (ps_ret (pe_lst (pa_cons pe_i (pa_cons pe_i pa_nil))))) pss_nil) (pss_cons (ps_set (i := 6) sc_tell_current.nd rfl (.inl rfl) (pe_cd D_first_moved (hr.mono (by decide)) rfl (pa_cons (pv 0) (pa_cons (pv 4) (pa_cons (pv 5) pa_nil))))) (pss_cons (ps_if (pt_cmpR (op_eqD (un64 hr)) (pv 6) (pe_gr rfl T.gNOTHING) (nomark _)) (pss_one (ps_ret (pe_lst (pa_cons pe_i pa_nil)))) pss_nil) (pss_one (ps_ret (pe_lst (pa_cons pe_i (pa_cons pe_i (pa_cons (pe_ix ix_tup (pv 6) pe_i (fun _ _ => rfl)) (pa_cons (pe_ix ix_tup (pv 6) pe_i (fun _ _ => rfl)) pa_nil))))))))))))))), ?_⟩)
  obtain ⟨n, L, m, z, kd, nu, rfl, S, W, q0⟩ := h
  have q : Got K c n L H (m, Sv.outCurrent m z kd nu) Q := q0
  unfold Sv.outCurrent at q
  refine seq_ret (a_not (a_B (v_b1 (v_var rfl)))) (fun e => ?_) (fun e => ?_)
  · rw [if_pos (nb_t e)] at q
    exact n_l1 v_c fun p np => q.pure S (Same.refl _) np
  rw [if_neg (by rw [nb_f e]; exact Bool.noConfusion)] at q
  refine seq_ret (a_not (a_B (v_hasS S (v_var rfl) (v_var rfl)))) (fun e => ?_) (fun e => ?_)
  · rw [surveyAt_none (nb_t e)] at q
    exact n_l1 v_c fun p np => q.pure S (Same.refl _) np
  obtain ⟨ls, hs, hi⟩ := surveyAt_some (nb_f e)
  have z1 : 1 ≤ z := by
    have e' := nb_f e
    rw [Bool.and_eq_true, decide_eq_true_eq] at e'
    exact e'.1
  rw [hs] at q
  dsimp only at q
  have wl := W.lns ls (List.mem_of_getElem? hi)
  obtain ⟨sv, h1, h2⟩ := S.c4
  obtain ⟨v, hv, a, ws, rfl, h3, h4⟩ := h2.get hi
  have h3' := off_sub _ _ h3
  have h4' : Pt (LnAt H) ws ls := h4.mono fun _ _ y => y.mono off_sub
  refine seq_set (v_ix (v_surveys T S (v_var rfl)) (v_sub (v_var rfl) v_c) (SqL.of h1) (by omega) hv _ ?_)
  refine seq_set (c_3 (v_var rfl) (v_var rfl) (v_var rfl) ⟨a, ws, ls, kd, nu, rfl, h3', h4', fun hf => ?_, fun l v2 hf hl => ?_⟩)
  · rw [hf] at q
    refine seq_ret (a_test (v_isN (v_var rfl))) (fun _ => n_l1 v_c fun p np => q.pure S (Same.refl _) np) (fun e => ?_)
    cases e
  rw [hf] at q
  dsimp only at q
  have hm : l ∈ ls := List.mem_of_find?_eq_some hf
  obtain ⟨av, bv, rfl, k1, k2⟩ := hl
  have k1' := SqT.of (K := K) k1
  refine seq_ret (a_test (v_isN (v_var rfl))) (fun e => ?_) (fun _ => ?_)
  · cases e
  refine seq_ret (a_test (v_eq (v_ixT (k := 3) (v_var rfl) v_c k1' rfl) v_c)) (fun e => ?_) (fun e => ?_)
  · have e' : l.rooted = true := by
      cases r : l.rooted with
      | true => rfl
      | false =>
        rw [r] at e
        cases e
    rw [if_pos e'] at q
    exact n_l2 v_c v_c fun p np => q.pure S (Same.refl _) np
  have e' : ¬ l.rooted = true := fun r => by
    rw [r] at e
    cases e
  rw [if_neg e'] at q
  refine seq_set (c_3 (v_var rfl) (v_var rfl) (v_var rfl) ⟨n, L, m, a, ws, ls, _, l, rfl, S, W, h3', h4', ⟨av, bv, rfl, k1, k2⟩, hm, wl.2, fun H1 v3 s1 hv3 hk3 => ?_⟩)
  cases r : Sv.firstMoved m ls l with
  | none =>
    rw [r] at q hv3
    refine seq_ret (a_test (v_eqD (v_var rfl) v_c hv3 (nothing_at T H1))) (fun _ => n_l1 v_c fun p np => q.pure S s1 np) (fun e => ?_)
    exact absurd rfl (of_decide_eq_false e)
  | some nm =>
    rw [r] at q hv3
    have hk := hk3 nm r
    refine seq_ret (a_test (v_eqD (v_var rfl) v_c hv3 (nothing_at T H1))) (fun e => ?_) (fun _ => ?_)
    · exact absurd (of_decide_eq_true e) (Sv.valueOf_ne nm)
    refine n_l4 v_c v_c (v_kind (v_var rfl) hv3) (v_num (v_var rfl) hv3) fun p np => ?_
    have := q.pure S s1 np
    rw [show [V.int 0, V.int 2, nV (Sv.kindN (Vbxlaf.valueOf nm)), nV (Sv.numN (Vbxlaf.valueOf nm))] = List.map V.int [0, 2, (nm.kind : Int), (nm.number : Int)] by
      rw [kindN_val hk, numN_val]
      rfl]
    exact this
theorem ok_show_lines (F : Fun K "show_lines" "show_lines" s_show_lines f fd) (T : Txt K mg c) (D_lines_now : Def P w K mg base "lines_now" ["site"] 5 (spLines K c)) : FnOk P w K mg base CX0 6 f fd ["site"] (spO0 K c fun m => (m, Sv.outLines m)) := by
  refine F.ok sc_show_lines spO0_len (fun cdv A outer s H vs Q E hr h => ⟨_, (pss_cons (ps_set (i := 1) sc_show_lines.nd rfl (.inl rfl) (pe_cd D_lines_now (hr.mono (by decide)) rfl (pa_cons (pv 0) pa_nil))) (pss_cons (ps_set (i := 2) sc_show_lines.nd rfl (.inl rfl) (pe_lst (pa_cons (pe_callB call_len_seq (by rfl) T.len PySem.boot_len (pa_cons (pv 1) pa_nil)) pa_nil))) (pss_cons (ps_for PassesOwn.never rfl (pi_list (pv 1)) (pg_tup rfl (pgs_cons (pg_name (i := 3) sc_show_lines.nd rfl (.inl rfl)) (pgs_cons (pg_name (i := 4) sc_show_lines.nd rfl (.inl rfl)) (pgs_cons (pg_name (i := 5) sc_show_lines.nd rfl (.inl rfl)) (pgs_cons (pg_name (i := 6) sc_show_lines.nd rfl (.inl rfl)) (pgs_cons (pg_name (i := 7) sc_show_lines.nd rfl (.inl rfl)) pgs_nil)))))) (pss_cons (ps_expr (pe_bm PySem.F.plainAttrs_list PySem.F.slot_list_extend PySem.F.type_list_extend mt_extend (pv 2) (pa_cons (pe_lst (pa_cons (pv 3) (pa_cons (pv 4) (pa_cons (pv 6) (pa_cons (pe_callB call_len_seq (by rfl) T.len PySem.boot_len (pa_cons (pv 7) pa_nil)) pa_nil))))) pa_nil))) (pss_one (ps_expr (pe_bm PySem.F.plainAttrs_list PySem.F.slot_list_extend PySem.F.type_list_extend mt_extend (pv 2) (pa_cons (pv 7) pa_nil)))))) (pss_one (ps_ret (pv 2)))))), ?_⟩)
  obtain ⟨n, L, m, rfl, S, W, q0⟩ := h
  have q : Got K c n L H (m, Sv.outLines m) Q := q0
  unfold Sv.outLines at q
  refine seq_set (c_1 (v_var rfl) ⟨n, L, m, rfl, S, W, fun H1 a ws s0 n0 h3 h4 => ?_⟩)
  have hok : ∀ l ∈ Sv.linesNow m, l.sources.length ≤ 40 := fun l hl => (Sv.lines_ok W l hl).few
  have hl60 := Sv.linesNow_len m
  generalize Sv.linesNow m = ls at q h4 hok hl60
  have l4 := h4.1
  refine seq_set (n_l1 (v_len (v_var rfl) (SqL.of h3)) fun D nD => ?_)
  have s1 := same_upd (o := .lst [nV ws.length]) nD
  have fl : ∀ i, ((ls.take i).flatMap Sv.lineP).length ≤ 44 * (ls.take i).length := fun i => flat_len _ fun x hx => by
    have := hok x (List.mem_of_mem_take hx)
    unfold Sv.lineP Sv.intL
    rw [List.length_append, List.length_map]
    show 4 + _ ≤ 44
    omega
  refine seq_forL (v_var rfl) (SqL.of (s1 _ _ h3)) (fun i σ H' => ∃ y1 y2 y3 y4 y5, σ = [some (.ref (L 0)), some (.ref a), some (.ref D), y1, y2, y3, y4, y5] ∧ Same H1 H' ∧ H' D = some (.lst (((ls.length : Int) :: (ls.take i).flatMap Sv.lineP).map V.int)))
    ⟨none, none, none, none, none, rfl, s1, by rw [upd_same, l4]; rfl⟩ (fun i σ H' _ ⟨_, _, _, _, _, _, e, _⟩ => SqL.of (e _ _ h3)) ?_ ?_
  · rintro i v2 σ H' hi2 ⟨y1, y2, y3, y4, y5, rfl, e2, g1⟩
    obtain ⟨l, hl, av, bv, rfl, na, nb, k1, k2⟩ := h4.got hi2
    have dD : bv ≠ D := ne_of_none k2 nD
    have k1' := SqT.of (K := K) (e2 _ _ k1)
    have k2' := e2 _ _ k2
    have f40 := hok l (List.mem_of_getElem? hl)
    have fi := fl i
    rw [List.length_take] at fi
    refine ⟨av, _, rfl, k1', rfl, _, _, rfl, _, _, rfl, _, _, rfl, _, _, rfl, _, _, rfl, rfl, ?_⟩
    refine seq_drop ⟨_, rfl, .inl ⟨rfl, _, SqL.of g1⟩, n_l4 (v_var rfl) (v_var rfl) (v_var rfl) (v_len (v_var rfl) (SqL.of k2')) fun t nt => ?_⟩
    have s2 := same_upd (o := .lst [nV l.name.kind, nV l.name.number, nV (Sv.flagN l.rooted), nV (l.sources.map nV).length]) nt
    refine ⟨D, t, _, _, rfl, rfl, s2 _ _ g1, upd_same, few' (by rw [List.length_map, List.length_cons]; show _ + 4 ≤ _; omega), ?_⟩
    refine drop1 ⟨_, rfl, .inl ⟨rfl, _, SqL.of upd_same⟩, _, rfl, D, bv, _, _, rfl, rfl, upd_same, (by rw [upd_ne dD]; exact s2 _ _ k2'), few' (by rw [List.length_append, List.length_map, List.length_map, List.length_cons]; show _ + 4 + _ ≤ _; omega), ?_⟩
    refine ⟨_, _, _, _, _, rfl, same_old (same_old (e2.trans s2) nD) nD, ?_⟩
    rw [upd_same, flat_more hl, List.length_map]
    simp only [Sv.lineP, List.map_append, List.map_cons, List.map_nil, List.cons_append, List.nil_append, List.append_assoc, ints_map]
    rfl
  · rintro σ H' ⟨y1, y2, y3, y4, y5, rfl, e2, g1⟩
    rw [l4, List.take_length] at g1
    exact s_ret (v_var rfl) (q.at S (s0.trans e2) (s0.free nD) g1)
/-! ### what is affected -/
theorem inV_nV (k : Nat) : ∀ ns : List Nat, inV (nV k) (ns.map nV) = decide (k ∈ ns)
  | [] => by simp [inV]
  | a :: ns => by
    have ih := inV_nV k ns
    unfold inV at ih ⊢
    rw [List.map_cons, List.any_cons, ih]
    have e : eqV (nV a) (nV k) = decide (k = a) := by
      show ((a : Int) == (k : Int)) = _
      rw [Bool.eq_iff_iff, beq_iff_eq, decide_eq_true_eq]
      omega
    rw [e, Bool.eq_iff_iff]
    simp
theorem flat_nV (ns : List Nat) : (ns.map nV).all flatV = true := by
  rw [List.all_eq_true]
  intro x hx
  obtain ⟨k, _, rfl⟩ := List.mem_map.mp hx
  rfl
theorem v_inI {n k : Nat} {H : Hp} {σ : L2.St} {ta tb : TE} {p : Addr} {ns : List Nat} (ha : Va ta σ H (nV k)) (hb : Va tb σ H (.ref p)) (h : H p = some (.lst (ns.map nV))) : Va (tOp (rIn K false) ta tb) σ H (.bl (decide (k ∈ ns))) :=
  v_op ha hb fun _ q => ⟨p, _, rfl, .inl (SqL.of h), rfl, flat_nV ns, by rw [← inV_nV] at q; exact q⟩
theorem ok_show_affected (F : Fun K "show_affected" "show_affected" s_show_affected f fd) (T : Txt K mg c) (D_affected_now : Def P w K mg base "affected_now" ["site"] 3 (spListW K c Sv.affectedNow)) (D_work_now : Def P w K mg base "work_now" ["site"] 5 (spWork K c)) :
    FnOk P w K mg base CX0 6 f fd ["site"] (spO0 K c fun m => (m, Sv.outAffected m)) := by
  refine F.ok sc_show_affected spO0_len (fun cdv A outer s H vs Q E hr h => ⟨_, (pss_cons (ps_set (i := 1) sc_show_affected.nd rfl (.inl rfl) (pe_cd D_affected_now (hr.mono (by decide)) rfl (pa_cons (pv 0) pa_nil))) (pss_cons (ps_set (i := 2) sc_show_affected.nd rfl (.inl rfl) (pe_ifExp (pt_cmpR op_in_seq pe_i (pv 1) (by rfl)) pe_i pe_i)) (pss_cons (ps_setLc (i := 3) (own := [("source", 4)]) (g := gName 4) (by rfl) sc_show_affected.nd rfl rfl (sw_true rfl rfl rfl (by decide +kernel)) (pi_list (pv 1)) (blkOk_by (N := ["site", "affected", "slots", "entries", "source"]) (sc := defScope s_show_affected) (by decide +kernel)) (fun _ _ _ _ _ => pg_name (i := 4) sc_show_affected.nd rfl (Or.inl rfl)) (fun _ _ _ _ _ => (pts_one (pt_cmpR op_ne (pv 4) pe_i (nomark _)))) (fun _ _ _ _ _ => (pv 4))) (pss_one (ps_ret (pe_op op_cat (pe_op op_cat (pe_lst (pa_cons (pv 2) (pa_cons (pe_callB call_len_seq (by rfl) T.len PySem.boot_len (pa_cons (pv 3) pa_nil)) pa_nil))) (pv 3)) (pe_lst (pa_cons (pe_cd D_work_now (hr.mono (by decide)) rfl (pa_cons (pv 0) pa_nil)) pa_nil)))))))), ?_⟩)
  obtain ⟨n, L, m, rfl, S, W, q0⟩ := h
  have q : Got K c n L H (m, Sv.outAffected m) Q := q0
  unfold Sv.outAffected at q
  have fewA : (Sv.affectedNow m).length ≤ 41 := Nat.le_trans (List.length_filter_le _ _) (sources_few m)
  refine seq_set (c_1 (v_var rfl) ⟨n, L, m, rfl, S, W, fun H1 p1 s1 n1 h1 => ?_⟩)
  refine seq_set ((v_if (v := nV (Sv.flagN (decide (0 ∈ Sv.affectedNow m)))) (a_test (v_inI (n := 0) (k := 0) v_c (v_var rfl) h1)) (fun z => (v_c).to (by rw [z]; rfl)) (fun z => (v_c).to (by rw [z]; rfl))) _ ?_)
  refine seq_set ?_
  refine lcE (iL ⟨_, rfl, p1, rfl, ⟨_, SqL.of h1⟩, ?_⟩)
  intro D hD
  refine lc_filt (ns := Sv.affectedNow m) (p := fun s => decide (s ≠ 0)) (SqL.of h1) hD (Nat.le_trans fewA (by decide)) (fun y H' hy e Yc Nc hY hN => ⟨rfl, ?_⟩) fun H2 s2 h2 => ?_
  · refine a_test (v_ne (v_var rfl) v_c) _ ?_
    by_cases z : y = 0
    · refine ifF (ndF (by rw [z]; rfl)) (hN (by simp [z]) H' (Same.refl _))
    · exact ifT (nd (by omega)) ⟨_, rfl, hY (by simp [z]) H' (Same.refl _)⟩
  have h2' : H2 D = some (.lst ((Sv.affEntries m).map nV)) := h2
  have fewE : (Sv.affEntries m).length ≤ 41 := Nat.le_trans (List.length_filter_le _ _) fewA
  refine ret1 (e_op (e_op (n_l2 (v_var rfl) (v_len (v_var rfl) (SqL.of h2')) fun l1 nl1 => ⟨_, rfl, ?_⟩)))
  have s3 := same_upd (o := .lst [nV (Sv.flagN (decide (0 ∈ Sv.affectedNow m))), nV ((Sv.affEntries m).map nV).length]) nl1
  refine ⟨l1, D, _, _, rfl, rfl, upd_same, s3 _ _ h2', few' (by rw [List.length_map]; show 2 + _ ≤ _; omega), fun l2 nl2 => ?_⟩
  have s4 := same_upd (o := .lst ([nV (Sv.flagN (decide (0 ∈ Sv.affectedNow m))), nV ((Sv.affEntries m).map nV).length] ++ (Sv.affEntries m).map nV)) nl2
  have s14 := ((s1.trans s2).trans s3).trans s4
  refine e_L1 (c_1 (v_var rfl) ⟨n, L, m, rfl, S.same s14, W, fun H5 s5 => ⟨(by show 1 ≤ sizeLine; decide), fun l3 nl3 => ?_⟩⟩)
  have s6 := same_upd (o := .lst [nV (Sv.workNow m)]) nl3
  refine ⟨l2, l3, _, _, rfl, rfl, s6 _ _ (s5 _ _ upd_same), upd_same, few' (by rw [List.length_append, List.length_map]; show 2 + _ + 1 ≤ _; omega), fun y ny => ?_⟩
  have := q.pure S ((s14.trans s5).trans s6) ny
  simp only [List.map_append, List.map_cons, List.map_nil, ints_map] at this
  rw [List.length_map]
  exact this
/-! ### looking -/
def spIsSource (K : PySem.W.Frag) (c : Cad) : Sp := fun vs H Q _ => ∃ n L m z, vs = [.ref (L 0), .int z] ∧ SiteAt K c n L H m ∧ Q (.bl (Sv.isSource m z)) H
theorem ok_is_source (F : Fun K "is_source" "is_source" s_is_source f fd) (T : Txt K mg c) (D_Site_stamp_of : MDef P w K mg base c.Site "stamp_of" ["self", "kind", "number"] 1 (spStamp K c)) : FnOk P w K mg base CX0 2 f fd ["site", "source"] (spIsSource K c) := by
  refine F.ok sc_is_source (fun vs H Q E h => ?_) (fun cdv A outer s H vs Q E hr h => ⟨_, (pss_one (ps_ret (pe_or (pe_cmpR op_eq (pv 1) pe_i (nomark _)) (pe_one (pe_cmpR op_gt (pe_md (pv 0) T.cSite D_Site_stamp_of (hr.mono (by decide)) (pa_cons (pe_gi rfl T.gOBJECT) (pa_cons (pv 1) pa_nil))) pe_i (nomark _)))))), ?_⟩)
  · obtain ⟨n, L, m, z, rfl, _⟩ := h
    rfl
  obtain ⟨n, L, m, z, rfl, S, q⟩ := h
  refine s_ret (v_or (v_eq (v_var rfl) v_c) fun _ => v_gt (v_stamp S (v_var rfl) v_c (v_var rfl)) v_c) ?_
  have e : (decide (z = 0) || decide ((0 : Int) < (Sv.stampZ m 1 z : Int))) = Sv.isSource m z := by
    unfold Sv.isSource
    congr 1
    rw [Bool.eq_iff_iff, decide_eq_true_eq, decide_eq_true_eq]
    omega
  rw [e]
  exact q
theorem v_src {n : Nat} {L : Nat → Addr} {H : Hp} {m : Sv.M} {σ : L2.St} {te ta : TE} {z : Int} (S : SiteAt K c n L H m) (h0 : Va te σ H (.ref (L 0))) (h1 : Va ta σ H (.int z)) : Va (tCall (spIsSource K c) [] E0 (tCons te (tCons ta tNil))) σ H (.bl (Sv.isSource m z)) :=
  fun _ q => c_2 h0 h1 ⟨n, L, m, z, rfl, S, q⟩
def spIsTarget (K : PySem.W.Frag) (c : Cad) : Sp := fun vs H Q _ => ∃ n L m k z, vs = [.ref (L 0), .int k, .int z] ∧ SiteAt K c n L H m ∧ Q (.bl (Sv.isTarget m k z)) H
theorem ok_is_target (F : Fun K "is_target" "is_target" s_is_target f fd) (T : Txt K mg c) (D_Site_has_object : MDef P w K mg base c.Site "has_object" ["self", "number"] 1 (spHas K c)) (D_Site_stamp_of : MDef P w K mg base c.Site "stamp_of" ["self", "kind", "number"] 1 (spStamp K c)) :
    FnOk P w K mg base CX0 2 f fd ["site", "kind", "number"] (spIsTarget K c) := by
  refine F.ok sc_is_target (fun vs H Q E h => ?_) (fun cdv A outer s H vs Q E hr h => ⟨_, (pss_cons (ps_if (pt_cmpR op_eq (pv 1) (pe_gi rfl T.gOBJECT) (nomark _)) (pss_one (ps_ret (pe_md (pv 0) T.cSite D_Site_has_object (hr.mono (by decide)) (pa_cons (pv 2) pa_nil)))) pss_nil) (pss_one (ps_ret (pe_cmpR op_gt (pe_md (pv 0) T.cSite D_Site_stamp_of (hr.mono (by decide)) (pa_cons (pv 1) (pa_cons (pv 2) pa_nil))) pe_i (nomark _))))), ?_⟩)
  · obtain ⟨n, L, m, k, z, rfl, _⟩ := h
    rfl
  obtain ⟨n, L, m, k, z, rfl, S, q⟩ := h
  unfold Sv.isTarget at q
  refine seq_ret (a_test (v_eq (v_var rfl) v_c)) (fun e => ?_) (fun e => ?_)
  · rw [if_pos (of_decide_eq_true e)] at q
    exact v_has S (v_var rfl) (v_var rfl) _ q
  · rw [if_neg (of_decide_eq_false e)] at q
    refine s_ret (v_gt (v_stamp S (v_var rfl) (v_var rfl) (v_var rfl)) v_c) ?_
    have e2 : decide ((0 : Int) < (Sv.stampZ m k z : Int)) = decide (0 < Sv.stampZ m k z) := by
      rw [Bool.eq_iff_iff, decide_eq_true_eq, decide_eq_true_eq]
      omega
    rw [e2]
    exact q
theorem v_tgt {n : Nat} {L : Nat → Addr} {H : Hp} {m : Sv.M} {σ : L2.St} {te ta tb : TE} {k z : Int} (S : SiteAt K c n L H m) (h0 : Va te σ H (.ref (L 0))) (h1 : Va ta σ H (.int k)) (h2 : Va tb σ H (.int z)) :
    Va (tCall (spIsTarget K c) [] E0 (tCons te (tCons ta (tCons tb tNil)))) σ H (.bl (Sv.isTarget m k z)) := fun _ q => c_3 h0 h1 h2 ⟨n, L, m, k, z, rfl, S, q⟩
theorem ok_show_path (F : Fun K "show_path" "show_path" s_show_path f fd) (T : Txt K mg c) (D_first_path : Def P w K mg base "first_path" ["heap", "source", "target"] 2 (spPath K c)) (D_is_kind : Def P w K mg base "is_kind" ["number"] 1 (spB1 Sv.kindOk)) (D_is_source : Def P w K mg base "is_source" ["site", "source"] 2 (spIsSource K c))
    (D_is_target : Def P w K mg base "is_target" ["site", "kind", "number"] 2 (spIsTarget K c)) : FnOk P w K mg base CX0 3 f fd ["site", "source", "kind", "number"] (spO3 K c fun m a b d => (m, Sv.outPath m a b d)) := by
  refine F.ok sc_show_path spO3_len (fun cdv A outer s H vs Q E hr h => ⟨_, (pss_cons (ps_if (pt_not (pt_val (pe_cd D_is_kind (hr.mono (by decide)) rfl (pa_cons (pv 2) pa_nil)))) (pss_one (ps_ret (pe_lst (pa_cons (pe_gi rfl T.gOUT_OF_RANGE) pa_nil)))) pss_nil) (pss_cons (ps_if (PW.pt (pw_or (pt_not (pt_val (pe_cd D_is_source (hr.mono (by decide)) rfl (pa_cons (pv 0) (pa_cons (pv 1) pa_nil))))) (pw_or1 (pt_not (pt_val (pe_cd D_is_target (hr.mono (by decide)) rfl (pa_cons (pv 0) (pa_cons (pv 2) (pa_cons (pv 3) pa_nil))))))))) (pss_one (ps_ret (pe_lst (pa_cons (pe_gi rfl T.gNOT_THERE) pa_nil)))) pss_nil) (pss_cons (ps_set (i := 4) sc_show_path.nd rfl (.inl rfl) (pe_cd D_first_path (hr.mono (by decide)) rfl (pa_cons (pe_fld (pv 0) rfl) (pa_cons (pv 1) (pa_cons (pe_tup (pa_cons (pv 2) (pa_cons (pv 3) pa_nil))) pa_nil))))) (pss_cons (ps_if (pt_cmpR op_eq (pe_callB call_len_seq (by rfl) T.len PySem.boot_len (pa_cons (pv 4) pa_nil)) pe_i (nomark _)) (pss_one (ps_ret (pe_lst (pa_cons pe_i pa_nil)))) pss_nil) (pss_one (ps_ret (pe_op op_cat (pe_lst (pa_cons pe_i (pa_cons (pe_callB call_len_seq (by rfl) T.len PySem.boot_len (pa_cons (pv 4) pa_nil)) pa_nil))) (pv 4)))))))), ?_⟩)
  obtain ⟨n, L, m, so, kd, nu, rfl, S, W, q0⟩ := h
  have q : Got K c n L H (m, Sv.outPath m so kd nu) Q := q0
  unfold Sv.outPath at q
  refine seq_ret (a_not (a_B (v_b1 (v_var rfl)))) (fun e => ?_) (fun e => ?_)
  · rw [if_pos (nb_t e)] at q
    exact n_l1 v_c fun p np => q.pure S (Same.refl _) np
  have hk := nb_f e
  rw [if_neg (by rw [hk]; exact Bool.noConfusion)] at q
  refine seq_ret (a_or (a_not (a_B (v_src S (v_var rfl) (v_var rfl)))) (fun _ => a_not (a_B (v_tgt S (v_var rfl) (v_var rfl) (v_var rfl))))) (fun e => ?_) (fun e => ?_)
  · have e' : (Sv.isSource m so && Sv.isTarget m kd nu) = false := by
      rw [← Bool.not_and] at e
      exact nb_t e
    rw [if_pos e'] at q
    exact n_l1 v_c fun p np => q.pure S (Same.refl _) np
  have e' : (Sv.isSource m so && Sv.isTarget m kd nu) = true := by
    rw [← Bool.not_and] at e
    exact nb_f e
  rw [if_neg (by rw [e']; exact Bool.noConfusion)] at q
  rw [Bool.and_eq_true] at e'
  have hso : 0 ≤ so ∧ so ≤ 40 := by
    have h := e'.1
    unfold Sv.isSource Sv.stampZ at h
    rw [Bool.or_eq_true, decide_eq_true_eq, decide_eq_true_eq] at h
    rcases h with h | h
    · omega
    · by_cases z : (1 : Int) = 1 ∧ 1 ≤ so ∧ so ≤ 40
      · omega
      · rw [if_neg z, if_neg (by omega)] at h
        omega
  have hnu : 0 ≤ nu := by
    have h := e'.2
    unfold Sv.isTarget at h
    by_cases z : kd = 1
    · rw [if_pos z] at h
      unfold Sv.hasObj at h
      rw [Bool.and_eq_true, decide_eq_true_eq] at h
      omega
    · rw [if_neg z, decide_eq_true_eq] at h
      unfold Sv.stampZ at h
      by_cases y : kd ≠ 1 ∧ 1 ≤ nu ∧ nu ≤ 20
      · omega
      · rw [if_neg (by omega), if_neg y] at h
        omega
  obtain ⟨k, rfl⟩ : ∃ k : Nat, so = (k : Int) := ⟨so.toNat, by omega⟩
  obtain ⟨u, rfl⟩ : ∃ u : Nat, nu = (u : Int) := ⟨nu.toNat, by omega⟩
  have enc : encV (Sv.valueZ kd (u : Int)) = [.int kd, nV u] := by
    unfold Sv.kindOk at hk
    rw [Bool.or_eq_true, decide_eq_true_eq, decide_eq_true_eq] at hk
    unfold Sv.valueZ
    rcases hk with rfl | rfl <;> rfl
  refine seq_set (e_3 (v_heap T S (v_var rfl)) (v_var rfl) (n_t2 (v_var rfl) (v_var rfl) fun t nt => ?_))
  have s1 := same_upd (o := .tup [.int kd, .int (u : Int)]) nt
  refine ⟨n, L, m, k, .ref t, Sv.valueZ kd u, rfl, S.same s1, W, by omega, VAt.new (by rw [enc]; exact upd_same), fun H2 p s2 h2 hl2 => ?_⟩
  rw [Int.toNat_natCast] at q
  generalize Sv.firstPath m k (Sv.valueZ kd u) = path at q h2 hl2
  refine seq_ret (a_test (v_eq (v_len (v_var rfl) (SqL.of h2)) v_c)) (fun e => ?_) (fun e => ?_)
  · have e2 : path = [] := by
      have := of_decide_eq_true e
      rw [List.length_map] at this
      exact List.eq_nil_of_length_eq_zero (by omega)
    rw [e2] at q
    exact n_l1 v_c fun p np => q.pure S (s1.trans s2) np
  cases path with
  | nil => exact absurd rfl (of_decide_eq_false e)
  | cons x r =>
    refine ret1 (e_op (n_l2 v_c (v_len (v_var rfl) (SqL.of h2)) fun l nl => ⟨_, rfl, ?_⟩))
    have s3 := same_upd (o := .lst [.int 1, nV ((x :: r).map nV).length]) nl
    refine ⟨l, p, _, _, rfl, rfl, upd_same, s3 _ _ h2, few' (by rw [List.length_map]; show 2 + _ ≤ _; omega), fun y ny => ?_⟩
    have el : ([V.int 1, nV ((x :: r).map nV).length] ++ (x :: r).map nV) = List.map V.int (1 :: (((x :: r).length : Nat) : Int) :: Sv.intL (x :: r)) := by
      show V.int 1 :: nV ((x :: r).map nV).length :: (x :: r).map nV = V.int 1 :: nV (x :: r).length :: (Sv.intL (x :: r)).map V.int
      rw [ints_map, List.length_map]
    rw [el]
    exact q.pure S ((s1.trans s2).trans s3) ny
theorem ok_show_stamp (F : Fun K "show_stamp" "show_stamp" s_show_stamp f fd) (T : Txt K mg c) (D_Site_stamp_of : MDef P w K mg base c.Site "stamp_of" ["self", "kind", "number"] 1 (spStamp K c)) (D_is_kind : Def P w K mg base "is_kind" ["number"] 1 (spB1 Sv.kindOk)) :
    FnOk P w K mg base CX0 2 f fd ["site", "kind", "number"] (spO2 K c fun m a b => (m, Sv.outStamp m a b)) := by
  refine F.ok sc_show_stamp spO2_len (fun cdv A outer s H vs Q E hr h => ⟨_, (pss_cons (ps_if (pt_not (pt_val (pe_cd D_is_kind (hr.mono (by decide)) rfl (pa_cons (pv 1) pa_nil)))) (pss_one (ps_ret (pe_lst (pa_cons (pe_gi rfl T.gOUT_OF_RANGE) pa_nil)))) pss_nil) (pss_cons (ps_set (i := 3) sc_show_stamp.nd rfl (.inl rfl) (pe_md (pv 0) T.cSite D_Site_stamp_of (hr.mono (by decide)) (pa_cons (pv 1) (pa_cons (pv 2) pa_nil)))) (pss_cons (ps_if (pt_cmpR op_eq (pv 3) pe_i (nomark _)) (pss_one (ps_ret (pe_lst (pa_cons (pe_gi rfl T.gNOT_THERE) pa_nil)))) pss_nil) (pss_one (ps_ret (pe_lst (pa_cons (pv 3) pa_nil))))))), ?_⟩)
  obtain ⟨n, L, m, kd, nu, rfl, S, W, q0⟩ := h
  have q : Got K c n L H (m, Sv.outStamp m kd nu) Q := q0
  unfold Sv.outStamp at q
  refine seq_ret (a_not (a_B (v_b1 (v_var rfl)))) (fun e => ?_) (fun e => ?_)
  · rw [if_pos (nb_t e)] at q
    exact n_l1 v_c fun p np => q.pure S (Same.refl _) np
  rw [if_neg (by rw [nb_f e]; exact Bool.noConfusion)] at q
  refine seq_set (v_stamp S (v_var rfl) (v_var rfl) (v_var rfl) _ ?_)
  refine seq_ret (a_test (v_eq (v_var rfl) v_c)) (fun e => ?_) (fun e => ?_)
  · have e2 : Sv.stampZ m kd nu = 0 := by
      have := of_decide_eq_true e
      omega
    rw [if_pos e2] at q
    exact n_l1 v_c fun p np => q.pure S (Same.refl _) np
  · have e2 : ¬ Sv.stampZ m kd nu = 0 := fun z => of_decide_eq_false e (by rw [z]; rfl)
    rw [if_neg e2] at q
    exact n_l1 (v_var rfl) fun p np => q.pure S (Same.refl _) np
def spFlat (K : PySem.W.Frag) : Sp := fun vs H Q _ => ∃ a bv xs, vs = [.ref a] ∧ H a = some (.lst bv) ∧ VsAt K H bv xs ∧ xs.length ≤ 1000 ∧ ∀ H' p, Same H H' → H p = none → H' p = some (.lst ((Sv.pairsFlat xs).map V.int)) → Q (.ref p) H'
theorem pairs_len (xs : List Vl) : (Sv.pairsFlat xs).length = 2 * xs.length := by
  induction xs with
  | nil => rfl
  | cons x xs ih =>
    show (Sv.pairI x ++ Sv.pairsFlat xs).length = _
    rw [List.length_append, ih, List.length_cons]
    show 2 + 2 * xs.length = _
    omega
theorem ok_pairs_flat (F : Fun K "pairs_flat" "pairs_flat" s_pairs_flat f fd) (T : Txt K mg c) : FnOk P w K mg base CX0 1 f fd ["values"] (spFlat K) := by
  refine F.ok sc_pairs_flat (fun vs H Q E h => ?_) (fun cdv A outer s H vs Q E hr h => ⟨_, (pss_cons (ps_set (i := 1) sc_pairs_flat.nd rfl (.inl rfl) (pe_lst pa_nil)) (pss_cons (ps_for PassesOwn.never rfl (pi_list (pv 0)) (pg_tup rfl (pgs_cons (pg_name (i := 2) sc_pairs_flat.nd rfl (.inl rfl)) (pgs_cons (pg_name (i := 3) sc_pairs_flat.nd rfl (.inl rfl)) pgs_nil))) (pss_one (ps_expr (pe_bm PySem.F.plainAttrs_list PySem.F.slot_list_extend PySem.F.type_list_extend mt_extend (pv 1) (pa_cons (pe_lst (pa_cons (pv 2) (pa_cons (pv 3) pa_nil))) pa_nil))))) (pss_one (ps_ret (pv 1))))), ?_⟩)
  · obtain ⟨a, bv, xs, rfl, _⟩ := h
    rfl
  obtain ⟨a, bv, xs, rfl, ha, hx, hl, q⟩ := h
  refine seq_set (n_nil fun D nD => ?_)
  have s1 := same_upd (o := .lst []) nD
  refine seq_forL (v_var rfl) (SqL.of (s1 _ _ ha)) (fun i σ H' => ∃ y1 y2, σ = [some (.ref a), some (.ref D), y1, y2] ∧ Same H H' ∧ H' D = some (.lst ((Sv.pairsFlat (xs.take i)).map V.int)))
    ⟨none, none, rfl, s1, upd_same⟩ (fun i σ H' _ ⟨_, _, _, e, _⟩ => SqL.of (e _ _ ha)) ?_ ?_
  · rintro i v σ H' hi ⟨y1, y2, rfl, e, g⟩
    obtain ⟨x, hx2, hv⟩ := hx.got hi
    obtain ⟨av, rfl, hs⟩ := (hv.mono e).sq
    have fl := pairs_len (xs.take i)
    rw [List.length_take] at fl
    refine ⟨av, _, rfl, hs, rfl, _, _, rfl, _, _, rfl, rfl, ?_⟩
    refine drop1 ⟨_, rfl, .inl ⟨rfl, _, SqL.of g⟩, n_l2 (v_var rfl) (v_var rfl) fun t nt => ?_⟩
    have s2 := same_upd (o := .lst [nV (Sv.kindN x), nV (Sv.numN x)]) nt
    refine ⟨D, t, _, _, rfl, rfl, s2 _ _ g, upd_same, few' (by rw [List.length_map]; show _ + 2 ≤ _; omega), _, _, rfl, same_old (e.trans s2) nD, ?_⟩
    rw [upd_same]
    unfold Sv.pairsFlat
    rw [flat_more hx2, List.map_append]
    rfl
  · rintro σ H' ⟨y1, y2, rfl, e, g⟩
    rw [hx.1, List.take_length] at g
    exact s_ret (v_var rfl) (q H' D e nD g)
theorem ok_show_object (F : Fun K "show_object" "show_object" s_show_object f fd) (T : Txt K mg c) (D_Site_has_object : MDef P w K mg base c.Site "has_object" ["self", "number"] 1 (spHas K c)) (D_pairs_flat : Def P w K mg base "pairs_flat" ["values"] 1 (spFlat K)) :
    FnOk P w K mg base CX0 2 f fd ["site", "number"] (spO1 K c fun m z => (m, Sv.outObject m z)) := by
  refine F.ok sc_show_object spO1_len (fun cdv A outer s H vs Q E hr h => ⟨_, (pss_cons (ps_if (pt_not (pt_val (pe_md (pv 0) T.cSite D_Site_has_object (hr.mono (by decide)) (pa_cons (pv 1) pa_nil)))) (pss_one (ps_ret (pe_lst (pa_cons (pe_gi rfl T.gNOT_THERE) pa_nil)))) pss_nil) (pss_cons (ps_set (i := 2) sc_show_object.nd rfl (.inl rfl) (pe_ix ix_list (pe_fld (pe_fld (pv 0) rfl) rfl) (pv 1) (fun _ _ => rfl))) (pss_one (ps_ret (pe_op op_cat (pe_lst (pa_cons (pe_callB call_len_seq (by rfl) T.len PySem.boot_len (pa_cons (pv 2) pa_nil)) pa_nil)) (pe_cd D_pairs_flat (hr.mono (by decide)) rfl (pa_cons (pv 2) pa_nil))))))), ?_⟩)
  obtain ⟨n, L, m, z, rfl, S, W, q0⟩ := h
  have q : Got K c n L H (m, Sv.outObject m z) Q := q0
  unfold Sv.outObject at q
  refine seq_ret (a_not (a_B (v_has S (v_var rfl) (v_var rfl)))) (fun e => ?_) (fun e => ?_)
  · rw [if_pos (nb_t e)] at q
    exact n_l1 v_c fun p np => q.pure S (Same.refl _) np
  have hz := nb_f e
  rw [if_neg (by rw [hz]; exact Bool.noConfusion)] at q
  have z40 : 1 ≤ z ∧ z ≤ 40 := by
    unfold Sv.hasObj at hz
    rw [Bool.and_eq_true, Bool.and_eq_true, decide_eq_true_eq, decide_eq_true_eq] at hz
    exact ⟨hz.1, hz.2.1⟩
  obtain ⟨rv, h1, h2⟩ := S.row (k := z.toNat) (by omega)
  have h4 := W.four z.toNat
  have l1 := h2.1
  refine seq_set (v_ix (v_rows T S (v_heap T S (v_var rfl))) (v_var rfl) (SqL.of S.c6) (by omega) (tab_get (by omega)) _ ?_)
  refine ret1 (e_op (n_l1 (v_len (v_var rfl) (SqL.of h1)) fun l nl => ?_))
  have s1 := same_upd (o := .lst [nV rv.length]) nl
  refine c_1 (v_var rfl) ⟨_, rv, m.rows z.toNat, rfl, s1 _ _ h1, h2.mono (Same.trans off_sub s1), by omega, fun H2 p s2 n2 h2 => ⟨l, p, _, _, rfl, rfl, s2 _ _ upd_same, h2, few' (by rw [List.length_map, pairs_len]; show 1 + _ ≤ _; omega), fun y ny => ?_⟩⟩
  have := q.pure S (s1.trans s2) ny
  rw [l1]
  exact this
theorem ok_show_slots (F : Fun K "show_slots" "show_slots" s_show_slots f fd) (T : Txt K mg c) (D_pairs_flat : Def P w K mg base "pairs_flat" ["values"] 1 (spFlat K)) : FnOk P w K mg base CX0 2 f fd ["site"] (spO0 K c fun m => (m, Sv.pairsFlat m.slots)) := by
  refine F.ok sc_show_slots spO0_len (fun cdv A outer s H vs Q E hr h => ⟨_, (pss_one (ps_ret (pe_cd D_pairs_flat (hr.mono (by decide)) rfl (pa_cons (pe_fld (pe_fld (pv 0) rfl) rfl) pa_nil)))), ?_⟩)
  obtain ⟨n, L, m, rfl, S, W, q0⟩ := h
  have q : Got K c n L H (m, Sv.pairsFlat m.slots) Q := q0
  obtain ⟨sv, h1, h2⟩ := S.c5
  have := W.six
  exact ret1 (c_1 (v_slots T S (v_heap T S (v_var rfl))) ⟨_, sv, m.slots, rfl, h1, h2.mono off_sub, by omega, fun H2 p s2 n2 h2 => q.at S s2 n2 h2⟩)
theorem ok_show_status (F : Fun K "show_status" "show_status" s_show_status f fd) (T : Txt K mg c) (D_entries_now : Def P w K mg base "entries_now" ["site"] 1 (spEnt K c)) (D_imports_now : Def P w K mg base "imports_now" ["site"] 1 (spImp K c)) (D_objects_now : Def P w K mg base "objects_now" ["site"] 1 (spObj K c)) :
    FnOk P w K mg base CX0 2 f fd ["site"] (spO0 K c fun m => (m, Sv.outStatus m)) := by
  refine F.ok sc_show_status spO0_len (fun cdv A outer s H vs Q E hr h => ⟨_, (pss_cons (ps_set (i := 1) sc_show_status.nd rfl (.inl rfl) (pe_lst (pa_cons (pe_fld (pe_fld (pv 0) rfl) rfl) (pa_cons (pe_callB call_len_seq (by rfl) T.len PySem.boot_len (pa_cons (pe_cd D_objects_now (hr.mono (by decide)) rfl (pa_cons (pv 0) pa_nil)) pa_nil)) (pa_cons (pe_callB call_len_seq (by rfl) T.len PySem.boot_len (pa_cons (pe_cd D_entries_now (hr.mono (by decide)) rfl (pa_cons (pv 0) pa_nil)) pa_nil)) (pa_cons (pe_callB call_len_seq (by rfl) T.len PySem.boot_len (pa_cons (pe_cd D_imports_now (hr.mono (by decide)) rfl (pa_cons (pv 0) pa_nil)) pa_nil)) pa_nil)))))) (pss_one (ps_ret (pe_op op_cat (pv 1) (pe_lst (pa_cons (pe_fld (pe_fld (pv 0) rfl) rfl) (pa_cons (pe_callB call_len_seq (by rfl) T.len PySem.boot_len (pa_cons (pe_fld (pv 0) rfl) pa_nil)) pa_nil))))))), ?_⟩)
  obtain ⟨n, L, m, rfl, S, W, q0⟩ := h
  have q : Got K c n L H (m, Sv.outStatus m) Q := q0
  refine seq_set (e_l (e_cons (v_made T S (v_heap T S (v_var rfl)) _ (e_cons (e_len (c_1 (v_var rfl) ⟨n, L, m, rfl, S, fun H1 p1 s1 n1 h1 => ⟨p1, _, rfl, .inl (SqL.of h1), ?_⟩⟩))))))
  refine e_cons (e_len (c_1 (v_var rfl) ⟨n, L, m, rfl, S.same s1, fun H2 p2 s2 n2 h2 => ⟨p2, _, rfl, .inl (SqL.of h2), ?_⟩⟩))
  refine e_cons (e_len (c_1 (v_var rfl) ⟨n, L, m, rfl, S.same (s1.trans s2), fun H3 p3 s3 n3 h3 => ⟨p3, _, rfl, .inl (SqL.of h3), ?_⟩⟩))
  refine e_nil ⟨(by show 4 ≤ sizeLine; decide), fun D nD => ?_⟩
  have s13 := (s1.trans s2).trans s3
  generalize ex : [nV m.made, V.int (((Sv.objectsNow m).map nV).length : Nat), V.int (((Sv.entriesNow m).map nV).length : Nat), V.int (((Sv.importsNow m).map nV).length : Nat)] = xs
  have lx : xs.length = 4 := by
    rw [← ex]
    rfl
  have s4 := same_upd (o := .lst xs) nD
  have S4 := S.same (s13.trans s4)
  obtain ⟨sv, g1, g2⟩ := S4.c4
  refine ret1 (e_op ⟨_, rfl, n_l2 (v_uses T S4 (v_names T S4 (v_var rfl))) (v_len (v_surveys T S4 (v_var rfl)) (SqL.of g1)) fun l nl => ?_⟩)
  have s5 := same_upd (o := .lst [nV m.uses, nV sv.length]) nl
  refine ⟨D, l, _, _, rfl, rfl, s5 _ _ upd_same, upd_same, few' (by rw [lx]; show 4 + 2 ≤ 100000; decide), fun y ny => ?_⟩
  have el : xs ++ [nV m.uses, nV sv.length] = List.map V.int (Sv.outStatus m) := by
    rw [← ex, g2.1]
    simp only [List.length_map]
    rfl
  rw [el]
  exact q.pure S ((s13.trans s4).trans s5) ny
end
end Sw
end
section
set_option maxHeartbeats 1000000
namespace Sw
open PySem PySem.Spec PyProof.Rows L2
section
variable {P : Program} {w : World} {K : PySem.W.Frag} {mg : Str → Option Value} {base : Heap} {c : Cad} {f : Addr} {fd : FuncData}
section
variable {n : Nat} {L J : Nat → Addr} {H H2 : Hp} {m m2 : Sv.M} {Q : VK} {p : Addr} {out : List Int}
theorem Got.fin (q : Got K c n L H (m2, out) Q) (S2 : SiteAt K c n J H2 m2) (F : Fr n L H J H2) (np : H2 p = none) : Q (.ref p) (upd H2 p (.lst (out.map V.int))) :=
  q J _ p (S2.same (same_upd np)) (F.trans (Fr.ofSame S2 (same_upd np))) (S2.new np) upd_same
theorem slotRead (S : SiteAt K c n L H m) (W : Sv.Wf m) {z : Int} (h : Sv.slotOk z = true) : ∃ v, VAt K (off n L H) v (Sv.slotV m z) ∧ ∀ {σ : L2.St} {te ta : TE}, Va te σ H (.ref (L 5)) → Va ta σ H (.int z) → Va (tOp (rIxL K) te ta) σ H v := by
  obtain ⟨sv, h1, h2⟩ := S.c5
  have hz := Sv.slotOk_iff.mp h
  have e : m.slots[z.toNat]? = some (Sv.slotV m z) := getD_at (by rw [W.six]; omega)
  obtain ⟨v, g1, g2⟩ := h2.get e
  exact ⟨v, g2, fun ha hb => v_ix ha hb (SqL.of h1) hz.1 g1⟩
theorem tupAt (S : SiteAt K c n L H m) {t : Addr} {x : Vl} (nt : H t = none) : VAt K (off n L (upd H t (.tup (encV x)))) (.ref t) x := VAt.new (off_some.mpr ⟨upd_same, S.new nt⟩)
end
theorem or2_t {a b : Bool} (h : (!a || !b) = true) : (a && b) = false := by
  cases a <;> cases b <;> first | rfl | cases h
theorem or2_f {a b : Bool} (h : (!a || !b) = false) : a = true ∧ b = true := by
  cases a <;> cases b <;> first | exact ⟨rfl, rfl⟩ | cases h
theorem or3_t {a b d : Bool} (h : (!a || (!b || !d)) = true) : (a && (b && d)) = false := by
  cases a <;> cases b <;> cases d <;> first | rfl | cases h
theorem or3_f {a b d : Bool} (h : (!a || (!b || !d)) = false) : a = true ∧ b = true ∧ d = true := by
  cases a <;> cases b <;> cases d <;> first | exact ⟨rfl, rfl, rfl⟩ | cases h
theorem tnf {a : Bool} (h : a = true) : ¬ a = false := fun e => by
  rw [h] at e
  cases e
theorem slotNat {z : Int} (h : Sv.slotOk z = true) : ∃ k : Nat, z = (k : Int) ∧ k < 6 := by
  have := Sv.slotOk_iff.mp h
  exact ⟨z.toNat, by omega, by omega⟩
theorem fieldNat {z : Int} (h : Sv.fieldOk z = true) : ∃ k : Nat, z = (k : Int) ∧ k < 4 := by
  unfold Sv.fieldOk at h
  rw [Bool.and_eq_true, decide_eq_true_eq, decide_eq_true_eq] at h
  exact ⟨z.toNat, by omega, by omega⟩
theorem countNat {z : Int} (h : Sv.countOk z = true) : ∃ k : Nat, z = (k : Int) ∧ k ≤ 4 := by
  unfold Sv.countOk at h
  rw [Bool.and_eq_true, decide_eq_true_eq, decide_eq_true_eq] at h
  exact ⟨z.toNat, by omega, by omega⟩
theorem foreignNat {z : Int} (h : Sv.foreignOk z = true) : ∃ k : Nat, z = (k : Int) ∧ k < 21 := by
  unfold Sv.foreignOk at h
  rw [Bool.and_eq_true, decide_eq_true_eq, decide_eq_true_eq] at h
  exact ⟨z.toNat, by omega, by omega⟩
theorem t_T {te : TE} {σ : L2.St} {H : Hp} {Q : Bool → Hp → Prop} (h : te σ H fun x H1 => ∃ k, x = .bl k ∧ Q k H1) : tTest te σ H Q := h
/-! ### what a program does -/
theorem ok_create (F : Fun K "create" "create" s_create f fd) (T : Txt K mg c) (D_is_slot : Def P w K mg base "is_slot" ["number"] 1 (spB1 Sv.slotOk)) (D_is_field_count : Def P w K mg base "is_field_count" ["number"] 1 (spB1 Sv.countOk))
    (D_Heap_make : MDef P w K mg base c.Heap "make" ["self", "field_count"] 1 (spMake K c)) (D_Site_put : MDef P w K mg base c.Site "put" ["self", "slot", "value"] 2 (spPut K c)) :
    FnOk P w K mg base CX0 3 f fd ["site", "slot", "field_count"] (spO2 K c Sv.opCreate) := by
  refine F.ok sc_create spO2_len (fun cdv A outer s H vs Q E hr h => ⟨_, (pss_cons (ps_if (PW.pt (pw_or (pt_not (pt_val (pe_cd D_is_slot (hr.mono (by decide)) rfl (pa_cons (pv 1) pa_nil)))) (pw_or1 (pt_not (pt_val (pe_cd D_is_field_count (hr.mono (by decide)) rfl (pa_cons (pv 2) pa_nil))))))) (pss_one (ps_ret (pe_lst (pa_cons (pe_gi rfl T.gOUT_OF_RANGE) pa_nil)))) pss_nil) (pss_cons (ps_if (pt_cmpR op_ge (pe_fld (pe_fld (pv 0) rfl) rfl) (pe_gi rfl T.gMOST_OBJECTS) (nomark _)) (pss_one (ps_ret (pe_lst (pa_cons (pe_gi rfl T.gTOO_MANY) pa_nil)))) pss_nil) (pss_cons (ps_set (i := 3) sc_create.nd rfl (.inl rfl) (pe_md (pe_fld (pv 0) rfl) T.cHeap D_Heap_make (hr.mono (by decide)) (pa_cons (pv 2) pa_nil))) (pss_cons (ps_expr (pe_md (pv 0) T.cSite D_Site_put (hr.mono (by decide)) (pa_cons (pv 1) (pa_cons (pe_tup (pa_cons (pe_gi rfl T.gOBJECT) (pa_cons (pv 3) pa_nil))) pa_nil)))) (pss_one (ps_ret (pe_lst (pa_cons (pv 3) pa_nil)))))))), ?_⟩)
  obtain ⟨n, L, m, z, u, rfl, S, W, q⟩ := h
  unfold Sv.opCreate at q
  refine seq_ret (a_or (a_not (a_B (v_b1 (v_var rfl)))) fun _ => a_not (a_B (v_b1 (v_var rfl)))) (fun e => ?_) (fun e => ?_)
  · rw [if_pos (or2_t e)] at q
    exact n_l1 v_c fun p np => q.pure S (Same.refl _) np
  obtain ⟨hz, hu⟩ := or2_f e
  rw [if_neg (tnf (by rw [hz, hu]; rfl))] at q
  refine seq_ret (a_test (v_ge (v_made T S (v_heap T S (v_var rfl))) v_c)) (fun e => ?_) (fun e => ?_)
  · have e' : 40 ≤ m.made := by
      have := of_decide_eq_true e
      omega
    rw [if_pos e'] at q
    exact n_l1 v_c fun p np => q.pure S (Same.refl _) np
  have e' : ¬ 40 ≤ m.made := by
    have := of_decide_eq_false e
    omega
  rw [if_neg e'] at q
  obtain ⟨k, rfl, hk⟩ := slotNat hz
  obtain ⟨j, rfl, hj⟩ := countNat hu
  refine seq_set (m_1 (v_heap T S (v_var rfl)) (S.o1 (lk4 (by decide) (by decide) (by decide) (by decide))) (v_var rfl) ⟨n, L, m, j, rfl, S, by omega, hj, fun L1 H1 S1 F1 => ?_⟩)
  refine seq_drop (e_m2 (v_var rfl) (by rw [← F1.zero]; exact S1.o0 (lk4 (by decide) (by decide) (by decide) (by decide))) (v_var rfl) (n_t2 v_c (v_var rfl) fun t nt => ?_))
  have s2 := same_upd (o := .tup [.int 1, nV (m.made + 1)]) nt
  refine ⟨n, L1, _, k, .ref t, .object (m.made + 1), by rw [F1.zero]; rfl, S1.same s2, W.six, hk, tupAt (x := .object (m.made + 1)) S1 nt, fun H3 S3 F3 => ?_⟩
  exact ret1 (n_l1 (v_var rfl) fun p np => q.fin S3 (F1.trans ((Fr.ofSame S1 s2).trans F3)) np)
theorem ok_copy_slot (F : Fun K "copy_slot" "copy_slot" s_copy_slot f fd) (T : Txt K mg c) (D_is_slot : Def P w K mg base "is_slot" ["number"] 1 (spB1 Sv.slotOk)) (D_Site_put : MDef P w K mg base c.Site "put" ["self", "slot", "value"] 2 (spPut K c)) :
    FnOk P w K mg base CX0 3 f fd ["site", "target", "source"] (spO2 K c Sv.opCopy) := by
  refine F.ok sc_copy_slot spO2_len (fun cdv A outer s H vs Q E hr h => ⟨_, (pss_cons (ps_if (PW.pt (pw_or (pt_not (pt_val (pe_cd D_is_slot (hr.mono (by decide)) rfl (pa_cons (pv 1) pa_nil)))) (pw_or1 (pt_not (pt_val (pe_cd D_is_slot (hr.mono (by decide)) rfl (pa_cons (pv 2) pa_nil))))))) (pss_one (ps_ret (pe_lst (pa_cons (pe_gi rfl T.gOUT_OF_RANGE) pa_nil)))) pss_nil) (pss_cons (ps_expr (pe_md (pv 0) T.cSite D_Site_put (hr.mono (by decide)) (pa_cons (pv 1) (pa_cons (pe_ix ix_list (pe_fld (pe_fld (pv 0) rfl) rfl) (pv 2) (fun _ _ => rfl)) pa_nil)))) (pss_one (ps_ret (pe_lst (pa_cons pe_i pa_nil)))))), ?_⟩)
  obtain ⟨n, L, m, z, u, rfl, S, W, q⟩ := h
  unfold Sv.opCopy at q
  refine seq_ret (a_or (a_not (a_B (v_b1 (v_var rfl)))) fun _ => a_not (a_B (v_b1 (v_var rfl)))) (fun e => ?_) (fun e => ?_)
  · rw [if_pos (or2_t e)] at q
    exact n_l1 v_c fun p np => q.pure S (Same.refl _) np
  obtain ⟨hz, hu⟩ := or2_f e
  rw [if_neg (tnf (by rw [hz, hu]; rfl))] at q
  obtain ⟨k, rfl, hk⟩ := slotNat hz
  obtain ⟨v, hv, rd⟩ := slotRead S W hu
  refine seq_drop (m_2 (v_var rfl) (S.o0 (lk4 (by decide) (by decide) (by decide) (by decide))) (v_var rfl) (rd (v_slots T S (v_heap T S (v_var rfl))) (v_var rfl)) ⟨n, L, m, k, v, _, rfl, S, W.six, hk, hv, fun H3 S3 F3 => ?_⟩)
  exact ret1 (n_l1 v_c fun p np => q.fin S3 F3 np)
theorem ok_clear_slot (F : Fun K "clear_slot" "clear_slot" s_clear_slot f fd) (T : Txt K mg c) (D_is_slot : Def P w K mg base "is_slot" ["number"] 1 (spB1 Sv.slotOk)) (D_Site_put : MDef P w K mg base c.Site "put" ["self", "slot", "value"] 2 (spPut K c)) :
    FnOk P w K mg base CX0 3 f fd ["site", "slot"] (spO1 K c Sv.opClear) := by
  refine F.ok sc_clear_slot spO1_len (fun cdv A outer s H vs Q E hr h => ⟨_, (pss_cons (ps_if (pt_not (pt_val (pe_cd D_is_slot (hr.mono (by decide)) rfl (pa_cons (pv 1) pa_nil)))) (pss_one (ps_ret (pe_lst (pa_cons (pe_gi rfl T.gOUT_OF_RANGE) pa_nil)))) pss_nil) (pss_cons (ps_expr (pe_md (pv 0) T.cSite D_Site_put (hr.mono (by decide)) (pa_cons (pv 1) (pa_cons (pe_gr rfl T.gNOTHING) pa_nil)))) (pss_one (ps_ret (pe_lst (pa_cons pe_i pa_nil)))))), ?_⟩)
  obtain ⟨n, L, m, z, rfl, S, W, q⟩ := h
  unfold Sv.opClear at q
  refine seq_ret (a_not (a_B (v_b1 (v_var rfl)))) (fun e => ?_) (fun e => ?_)
  · rw [if_pos (nb_t e)] at q
    exact n_l1 v_c fun p np => q.pure S (Same.refl _) np
  have hz := nb_f e
  rw [if_neg (tnf hz)] at q
  obtain ⟨k, rfl, hk⟩ := slotNat hz
  refine seq_drop (m_2 (v_var rfl) (S.o0 (lk4 (by decide) (by decide) (by decide) (by decide))) (v_var rfl) v_c ⟨n, L, m, k, _, _, rfl, S, W.six, hk, nothing_at T _, fun H3 S3 F3 => ?_⟩)
  exact ret1 (n_l1 v_c fun p np => q.fin S3 F3 np)
def spFault (K : PySem.W.Frag) (c : Cad) : Sp := fun vs H Q _ => ∃ n L m z u, vs = [.ref (L 0), .int z, .int u] ∧ SiteAt K c n L H m ∧ Sv.Wf m ∧ Sv.slotOk z = true ∧ Q (.int (Sv.fieldFault m z u)) H
theorem slot_le {m : Sv.M} (W : Sv.Wf m) {z : Int} {k : Nat} (e : Sv.slotV m z = .object k) : k < 41 := by
  have o := ok40 W (Sv.okV_slot W z)
  rw [e] at o
  have o' : k ≤ 40 := o
  omega
theorem ok_field_fault (F : Fun K "field_fault" "field_fault" s_field_fault f fd) (T : Txt K mg c) : FnOk P w K mg base CX0 1 f fd ["site", "slot", "field"] (spFault K c) := by
  refine F.ok sc_field_fault (fun vs H Q E h => ?_) (fun cdv A outer s H vs Q E hr h => ⟨_, (pss_cons (ps_asg (pe_ix ix_list (pe_fld (pe_fld (pv 0) rfl) rfl) (pv 1) (fun _ _ => rfl)) (pg_tup rfl (pgs_cons (pg_name (i := 3) sc_field_fault.nd rfl (.inl rfl)) (pgs_cons (pg_name (i := 4) sc_field_fault.nd rfl (.inl rfl)) pgs_nil)))) (pss_cons (ps_if (pt_cmpR op_ne (pv 3) (pe_gi rfl T.gOBJECT) (nomark _)) (pss_one (ps_ret (pe_gi rfl T.gNOT_IN_SLOT))) pss_nil) (pss_cons (ps_if (pt_cmpR op_ge (pv 2) (pe_callB call_len_seq (by rfl) T.len PySem.boot_len (pa_cons (pe_ix ix_list (pe_fld (pe_fld (pv 0) rfl) rfl) (pv 4) (fun _ _ => rfl)) pa_nil)) (nomark _)) (pss_one (ps_ret (pe_gi rfl T.gNO_FIELD))) pss_nil) (pss_one (ps_ret pe_i))))), ?_⟩)
  · obtain ⟨n, L, m, z, u, rfl, _⟩ := h
    rfl
  obtain ⟨n, L, m, z, u, rfl, S, W, hz, q⟩ := h
  unfold Sv.fieldFault at q
  obtain ⟨v, hv, rd⟩ := slotRead S W hz
  refine seq_asg (rd (v_slots T S (v_heap T S (v_var rfl))) (v_var rfl) _ ?_)
  obtain ⟨av, rfl, hs⟩ := (hv.mono off_sub).sq
  refine ⟨av, _, rfl, hs, rfl, _, _, rfl, _, _, rfl, rfl, ?_⟩
  refine seq_ret (a_test (v_ne (v_var rfl) v_c)) (fun e => ?_) (fun e => ?_)
  · cases x : Sv.slotV m z with
    | nothing =>
      rw [x] at q
      exact q
    | foreign k =>
      rw [x] at q
      exact q
    | object k =>
      rw [x] at e
      cases e
  cases x : Sv.slotV m z with
  | nothing =>
    rw [x] at e
    cases e
  | foreign k =>
    rw [x] at e
    cases e
  | object k =>
    have hk := slot_le W x
    rw [x] at q
    obtain ⟨rv, h1, h2⟩ := S.row hk
    have q' : Q (.int (if ((m.rows k).length : Int) ≤ u then -5 else 0)) H := q
    rw [← h2.1] at q'
    refine seq_ret (a_test (v_ge (v_var rfl) (v_len (v_ixN (v_rows T S (v_heap T S (v_var rfl))) (v_var rfl) (SqL.of S.c6) (tab_get hk)) (SqL.of h1)))) (fun e2 => ?_) (fun e2 => ?_)
    · rw [if_pos (of_decide_eq_true e2)] at q'
      exact q'
    · rw [if_neg (of_decide_eq_false e2)] at q'
      exact s_ret v_c q'
theorem fault_none {m : Sv.M} {z u : Int} (h : Sv.fieldFault m z u = 0) (hu : 0 ≤ u) : ∃ k, Sv.slotV m z = .object k ∧ u.toNat < (m.rows k).length := by
  unfold Sv.fieldFault at h
  cases x : Sv.slotV m z with
  | nothing =>
    rw [x] at h
    cases h
  | foreign k =>
    rw [x] at h
    cases h
  | object k =>
    rw [x] at h
    have h' : (if ((m.rows k).length : Int) ≤ u then (-5 : Int) else 0) = 0 := h
    refine ⟨k, rfl, ?_⟩
    by_cases d : ((m.rows k).length : Int) ≤ u
    · rw [if_pos d] at h'
      cases h'
    · omega
theorem ok_read_field (F : Fun K "read_field" "read_field" s_read_field f fd) (T : Txt K mg c) (D_is_slot : Def P w K mg base "is_slot" ["number"] 1 (spB1 Sv.slotOk)) (D_is_field : Def P w K mg base "is_field" ["number"] 1 (spB1 Sv.fieldOk)) (D_field_fault : Def P w K mg base "field_fault" ["site", "slot", "field"] 1 (spFault K c))
    (D_Site_put : MDef P w K mg base c.Site "put" ["self", "slot", "value"] 2 (spPut K c)) : FnOk P w K mg base CX0 3 f fd ["site", "target", "source", "field"] (spO3 K c Sv.opRead) := by
  refine F.ok sc_read_field spO3_len (fun cdv A outer s H vs Q E hr h => ⟨_, (pss_cons (ps_if (PW.pt (pw_or (pt_not (pt_val (pe_cd D_is_slot (hr.mono (by decide)) rfl (pa_cons (pv 1) pa_nil)))) (pw_or (pt_not (pt_val (pe_cd D_is_slot (hr.mono (by decide)) rfl (pa_cons (pv 2) pa_nil)))) (pw_or1 (pt_not (pt_val (pe_cd D_is_field (hr.mono (by decide)) rfl (pa_cons (pv 3) pa_nil)))))))) (pss_one (ps_ret (pe_lst (pa_cons (pe_gi rfl T.gOUT_OF_RANGE) pa_nil)))) pss_nil) (pss_cons (ps_set (i := 4) sc_read_field.nd rfl (.inl rfl) (pe_cd D_field_fault (hr.mono (by decide)) rfl (pa_cons (pv 0) (pa_cons (pv 2) (pa_cons (pv 3) pa_nil))))) (pss_cons (ps_if (pt_cmpR op_ne (pv 4) pe_i (nomark _)) (pss_one (ps_ret (pe_lst (pa_cons (pv 4) pa_nil)))) pss_nil) (pss_cons (ps_set (i := 5) sc_read_field.nd rfl (.inl rfl) (pe_ix ix_tup (pe_ix ix_list (pe_fld (pe_fld (pv 0) rfl) rfl) (pv 2) (fun _ _ => rfl)) pe_i (fun _ _ => rfl))) (pss_cons (ps_set (i := 6) sc_read_field.nd rfl (.inl rfl) (pe_ix ix_list (pe_ix ix_list (pe_fld (pe_fld (pv 0) rfl) rfl) (pv 5) (fun _ _ => rfl)) (pv 3) (fun _ _ => rfl))) (pss_cons (ps_expr (pe_md (pv 0) T.cSite D_Site_put (hr.mono (by decide)) (pa_cons (pv 1) (pa_cons (pv 6) pa_nil)))) (pss_one (ps_ret (pe_lst (pa_cons (pe_ix ix_tup (pv 6) pe_i (fun _ _ => rfl)) (pa_cons (pe_ix ix_tup (pv 6) pe_i (fun _ _ => rfl)) pa_nil))))))))))), ?_⟩)
  obtain ⟨n, L, m, t, z, u, rfl, S, W, q⟩ := h
  unfold Sv.opRead at q
  refine seq_ret (a_or (a_not (a_B (v_b1 (v_var rfl)))) fun _ => a_or (a_not (a_B (v_b1 (v_var rfl)))) fun _ => a_not (a_B (v_b1 (v_var rfl)))) (fun e => ?_) (fun e => ?_)
  · rw [if_pos (or3_t e)] at q
    exact n_l1 v_c fun p np => q.pure S (Same.refl _) np
  obtain ⟨ht, hz, hu⟩ := or3_f e
  rw [if_neg (tnf (by rw [ht, hz, hu]; rfl))] at q
  refine seq_set (c_3 (v_var rfl) (v_var rfl) (v_var rfl) ⟨n, L, m, z, u, rfl, S, W, hz, ?_⟩)
  refine seq_ret (a_test (v_ne (v_var rfl) v_c)) (fun e => ?_) (fun e => ?_)
  · have e' : Sv.fieldFault m z u ≠ 0 := fun y => by
      rw [y] at e
      cases e
    rw [if_pos e'] at q
    exact n_l1 (v_var rfl) fun p np => q.pure S (Same.refl _) np
  have e' : Sv.fieldFault m z u = 0 := of_decide_eq_true (nb_f e)
  rw [if_neg fun y => y e'] at q
  obtain ⟨kt, rfl, hkt⟩ := slotNat ht
  obtain ⟨ku, rfl, hku⟩ := fieldNat hu
  obtain ⟨k, x, hl⟩ := fault_none e' (by omega)
  have hk := slot_le W x
  rw [Int.toNat_natCast] at hl
  obtain ⟨v, hv, rd⟩ := slotRead S W hz
  rw [x] at q hv
  have q' : Got K c n L H (Sv.put m kt ((m.rows k).getD ku .nothing), Sv.pairI ((m.rows k).getD ku .nothing)) Q := q
  refine seq_set (v_num (rd (v_slots T S (v_heap T S (v_var rfl))) (v_var rfl)) (hv.mono off_sub) _ ?_)
  obtain ⟨rv, h1, h2⟩ := S.row hk
  obtain ⟨y, g1, g2⟩ := h2.get (getD_at (d := Vbxlaf.Value.nothing) hl)
  refine seq_set (v_ixN (k := ku) (v_ixN (k := k) (v_rows T S (v_heap T S (v_var rfl))) (v_var rfl) (SqL.of S.c6) (tab_get hk)) (v_var rfl) (SqL.of h1) g1 _ ?_)
  refine seq_drop (m_2 (v_var rfl) (S.o0 (lk4 (by decide) (by decide) (by decide) (by decide))) (v_var rfl) (v_var rfl) ⟨n, L, m, kt, y, _, rfl, S, W.six, hkt, g2, fun H3 S3 F3 => ?_⟩)
  have g3 := g2.mono (F3.same.trans off_sub)
  exact ret1 (n_l2 (v_kind (v_var rfl) g3) (v_num (v_var rfl) g3) fun p np => q'.fin S3 F3 np)
theorem ok_write_field (F : Fun K "write_field" "write_field" s_write_field f fd) (T : Txt K mg c) (D_is_slot : Def P w K mg base "is_slot" ["number"] 1 (spB1 Sv.slotOk)) (D_is_field : Def P w K mg base "is_field" ["number"] 1 (spB1 Sv.fieldOk)) (D_field_fault : Def P w K mg base "field_fault" ["site", "slot", "field"] 1 (spFault K c))
    (D_Site_change_field : MDef P w K mg base c.Site "change_field" ["self", "number", "field", "value"] 2 (spChange K c)) : FnOk P w K mg base CX0 3 f fd ["site", "target", "field", "source"] (spO3 K c Sv.opWrite) := by
  refine F.ok sc_write_field spO3_len (fun cdv A outer s H vs Q E hr h => ⟨_, (pss_cons (ps_if (PW.pt (pw_or (pt_not (pt_val (pe_cd D_is_slot (hr.mono (by decide)) rfl (pa_cons (pv 1) pa_nil)))) (pw_or (pt_not (pt_val (pe_cd D_is_field (hr.mono (by decide)) rfl (pa_cons (pv 2) pa_nil)))) (pw_or1 (pt_not (pt_val (pe_cd D_is_slot (hr.mono (by decide)) rfl (pa_cons (pv 3) pa_nil)))))))) (pss_one (ps_ret (pe_lst (pa_cons (pe_gi rfl T.gOUT_OF_RANGE) pa_nil)))) pss_nil) (pss_cons (ps_set (i := 4) sc_write_field.nd rfl (.inl rfl) (pe_cd D_field_fault (hr.mono (by decide)) rfl (pa_cons (pv 0) (pa_cons (pv 1) (pa_cons (pv 2) pa_nil))))) (pss_cons (ps_if (pt_cmpR op_ne (pv 4) pe_i (nomark _)) (pss_one (ps_ret (pe_lst (pa_cons (pv 4) pa_nil)))) pss_nil) (pss_cons (ps_set (i := 5) sc_write_field.nd rfl (.inl rfl) (pe_ix ix_tup (pe_ix ix_list (pe_fld (pe_fld (pv 0) rfl) rfl) (pv 1) (fun _ _ => rfl)) pe_i (fun _ _ => rfl))) (pss_one (ps_ret (pe_lst (pa_cons (pe_md (pv 0) T.cSite D_Site_change_field (hr.mono (by decide)) (pa_cons (pv 5) (pa_cons (pv 2) (pa_cons (pe_ix ix_list (pe_fld (pe_fld (pv 0) rfl) rfl) (pv 3) (fun _ _ => rfl)) pa_nil)))) pa_nil)))))))), ?_⟩)
  obtain ⟨n, L, m, z, u, t, rfl, S, W, q⟩ := h
  unfold Sv.opWrite at q
  refine seq_ret (a_or (a_not (a_B (v_b1 (v_var rfl)))) fun _ => a_or (a_not (a_B (v_b1 (v_var rfl)))) fun _ => a_not (a_B (v_b1 (v_var rfl)))) (fun e => ?_) (fun e => ?_)
  · rw [if_pos (or3_t e)] at q
    exact n_l1 v_c fun p np => q.pure S (Same.refl _) np
  obtain ⟨hz, hu, ht⟩ := or3_f e
  rw [if_neg (tnf (by rw [ht, hz, hu]; rfl))] at q
  refine seq_set (c_3 (v_var rfl) (v_var rfl) (v_var rfl) ⟨n, L, m, z, u, rfl, S, W, hz, ?_⟩)
  refine seq_ret (a_test (v_ne (v_var rfl) v_c)) (fun e => ?_) (fun e => ?_)
  · have e' : Sv.fieldFault m z u ≠ 0 := fun y => by
      rw [y] at e
      cases e
    rw [if_pos e'] at q
    exact n_l1 (v_var rfl) fun p np => q.pure S (Same.refl _) np
  have e' : Sv.fieldFault m z u = 0 := of_decide_eq_true (nb_f e)
  rw [if_neg fun y => y e'] at q
  obtain ⟨ku, rfl, hku⟩ := fieldNat hu
  obtain ⟨k, x, hl⟩ := fault_none e' (by omega)
  have hk := slot_le W x
  rw [Int.toNat_natCast] at hl
  obtain ⟨v, hv, rd⟩ := slotRead S W hz
  obtain ⟨v2, hv2, rd2⟩ := slotRead S W ht
  rw [x] at q hv
  have q' : Got K c n L H ((Sv.changeField m k ku (Sv.slotV m t)).1, [((Sv.changeField m k ku (Sv.slotV m t)).2 : Int)]) Q := q
  refine seq_set (v_num (rd (v_slots T S (v_heap T S (v_var rfl))) (v_var rfl)) (hv.mono off_sub) _ ?_)
  refine ret1 (e_L1 (m_3 (v_var rfl) (S.o0 (lk4 (by decide) (by decide) (by decide) (by decide))) (v_var rfl) (v_var rfl) (rd2 (v_slots T S (v_heap T S (v_var rfl))) (v_var rfl)) ⟨n, L, m, k, ku, v2, _, rfl, S, hk, hl, hv2, fun H3 S3 F3 => ⟨(by show 1 ≤ sizeLine; decide), fun p np => q'.fin S3 F3 np⟩⟩))
/-! ### traffic -/
theorem ok_export (F : Fun K "export" "export" s_export f fd) (T : Txt K mg c) (D_is_slot : Def P w K mg base "is_slot" ["number"] 1 (spB1 Sv.slotOk)) (D_Site_use_object : MDef P w K mg base c.Site "use_object" ["self", "number"] 2 (spUseO K c)) (D_Names_use_import : MDef P w K mg base c.Names "use_import" ["self", "number"] 1 (spUseI K c)) :
    FnOk P w K mg base CX0 3 f fd ["site", "slot"] (spO1 K c Sv.opExport) := by
  refine F.ok sc_export spO1_len (fun cdv A outer s H vs Q E hr h => ⟨_, (pss_cons (ps_if (pt_not (pt_val (pe_cd D_is_slot (hr.mono (by decide)) rfl (pa_cons (pv 1) pa_nil)))) (pss_one (ps_ret (pe_lst (pa_cons (pe_gi rfl T.gOUT_OF_RANGE) pa_nil)))) pss_nil) (pss_cons (ps_set (i := 2) sc_export.nd rfl (.inl rfl) (pe_ix ix_list (pe_fld (pe_fld (pv 0) rfl) rfl) (pv 1) (fun _ _ => rfl))) (pss_cons (ps_if (pt_cmpR (op_eqD (un64 hr)) (pv 2) (pe_gr rfl T.gNOTHING) (nomark _)) (pss_one (ps_ret (pe_lst (pa_cons (pe_gi rfl T.gNOT_IN_SLOT) pa_nil)))) pss_nil) (pss_cons (ps_asg (pv 2) (pg_tup rfl (pgs_cons (pg_name (i := 3) sc_export.nd rfl (.inl rfl)) (pgs_cons (pg_name (i := 4) sc_export.nd rfl (.inl rfl)) pgs_nil)))) (pss_cons (ps_if (pt_cmpR op_eq (pv 3) (pe_gi rfl T.gOBJECT) (nomark _)) (pss_one (ps_ret (pe_lst (pa_cons (pv 3) (pa_cons (pv 4) (pa_cons (pe_md (pv 0) T.cSite D_Site_use_object (hr.mono (by decide)) (pa_cons (pv 4) pa_nil)) pa_nil)))))) pss_nil) (pss_one (ps_ret (pe_lst (pa_cons (pv 3) (pa_cons (pv 4) (pa_cons (pe_md (pe_fld (pv 0) rfl) T.cNames D_Names_use_import (hr.mono (by decide)) (pa_cons (pv 4) pa_nil)) pa_nil))))))))))), ?_⟩)
  obtain ⟨n, L, m, z, rfl, S, W, q⟩ := h
  unfold Sv.opExport at q
  refine seq_ret (a_not (a_B (v_b1 (v_var rfl)))) (fun e => ?_) (fun e => ?_)
  · rw [if_pos (nb_t e)] at q
    exact n_l1 v_c fun p np => q.pure S (Same.refl _) np
  have hz := nb_f e
  rw [if_neg (tnf hz)] at q
  obtain ⟨v, hv, rd⟩ := slotRead S W hz
  have o := Sv.okV_slot W z
  refine seq_set (rd (v_slots T S (v_heap T S (v_var rfl))) (v_var rfl) _ ?_)
  refine seq_ret (a_test (v_eqD (v_var rfl) v_c (hv.mono off_sub) (nothing_at T H))) (fun e2 => ?_) (fun e2 => ?_)
  · rw [of_decide_eq_true e2] at q
    exact n_l1 v_c fun p np => q.pure S (Same.refl _) np
  have e3 := of_decide_eq_false e2
  obtain ⟨av, rfl, hs⟩ := (hv.mono off_sub).sq
  refine seq_asg (v_var rfl _ ⟨av, _, rfl, hs, rfl, _, _, rfl, _, _, rfl, rfl, ?_⟩)
  refine seq_ret (a_test (v_eq (v_var rfl) v_c)) (fun e4 => ?_) (fun e4 => ?_)
  · cases x : Sv.slotV m z with
    | nothing => exact absurd x e3
    | foreign k =>
      rw [x] at e4
      cases e4
    | object k =>
      have hk := slot_le W x
      rw [x] at q
      refine e_l (e_cons (v_var rfl _ (e_cons (v_var rfl _ (e_cons (m_1 (v_var rfl) (S.o0 (lk4 (by decide) (by decide) (by decide) (by decide))) (v_var rfl) ⟨n, L, m, k, rfl, S, hk, fun H1 S1 F1 => e_nil ⟨(by show 3 ≤ sizeLine; decide), fun p np => ?_⟩⟩))))))
      exact Got.fin q S1 F1 np
  · cases x : Sv.slotV m z with
    | nothing => exact absurd x e3
    | object k =>
      rw [x] at e4
      cases e4
    | foreign k =>
      have hk : k < 21 := by
        rw [x] at o
        have := W.imp k o
        omega
      rw [x] at q
      refine ret1 (e_l (e_cons (v_var rfl _ (e_cons (v_var rfl _ (e_cons (m_1 (v_names T S (v_var rfl)) (S.o2 (lk3 (by decide) (by decide) (by decide))) (v_var rfl) ⟨n, L, m, k, rfl, S, hk, fun H1 S1 F1 => e_nil ⟨(by show 3 ≤ sizeLine; decide), fun p np => ?_⟩⟩)))))))
      exact Got.fin q S1 F1 np
theorem stamp_pos {m : Sv.M} {b : Int} (h : ¬ Sv.stampZ m 1 b = 0) : 1 ≤ b ∧ b ≤ 40 := by
  unfold Sv.stampZ at h
  by_cases z : (1 : Int) = 1 ∧ 1 ≤ b ∧ b ≤ 40
  · exact z.2
  · rw [if_neg z, if_neg (by omega)] at h
    exact absurd rfl h
theorem ok_arrive (F : Fun K "arrive" "arrive" s_arrive f fd) (T : Txt K mg c) (D_is_slot : Def P w K mg base "is_slot" ["number"] 1 (spB1 Sv.slotOk)) (D_Site_stamp_of : MDef P w K mg base c.Site "stamp_of" ["self", "kind", "number"] 1 (spStamp K c)) (D_Site_use_object : MDef P w K mg base c.Site "use_object" ["self", "number"] 2 (spUseO K c))
    (D_Site_put : MDef P w K mg base c.Site "put" ["self", "slot", "value"] 2 (spPut K c)) : FnOk P w K mg base CX0 3 f fd ["site", "number", "slot"] (spO2 K c Sv.opArrive) := by
  refine F.ok sc_arrive spO2_len (fun cdv A outer s H vs Q E hr h => ⟨_, (pss_cons (ps_if (pt_not (pt_val (pe_cd D_is_slot (hr.mono (by decide)) rfl (pa_cons (pv 2) pa_nil)))) (pss_one (ps_ret (pe_lst (pa_cons (pe_gi rfl T.gOUT_OF_RANGE) pa_nil)))) pss_nil) (pss_cons (ps_if (pt_cmpR op_eq (pe_md (pv 0) T.cSite D_Site_stamp_of (hr.mono (by decide)) (pa_cons (pe_gi rfl T.gOBJECT) (pa_cons (pv 1) pa_nil))) pe_i (nomark _)) (pss_one (ps_ret (pe_lst (pa_cons (pe_gi rfl T.gNOT_THERE) pa_nil)))) pss_nil) (pss_cons (ps_expr (pe_md (pv 0) T.cSite D_Site_put (hr.mono (by decide)) (pa_cons (pv 2) (pa_cons (pe_tup (pa_cons (pe_gi rfl T.gOBJECT) (pa_cons (pv 1) pa_nil))) pa_nil)))) (pss_one (ps_ret (pe_lst (pa_cons (pe_md (pv 0) T.cSite D_Site_use_object (hr.mono (by decide)) (pa_cons (pv 1) pa_nil)) pa_nil))))))), ?_⟩)
  obtain ⟨n, L, m, b, z, rfl, S, W, q⟩ := h
  unfold Sv.opArrive at q
  refine seq_ret (a_not (a_B (v_b1 (v_var rfl)))) (fun e => ?_) (fun e => ?_)
  · rw [if_pos (nb_t e)] at q
    exact n_l1 v_c fun p np => q.pure S (Same.refl _) np
  have hz := nb_f e
  rw [if_neg (tnf hz)] at q
  refine seq_ret (a_test (v_eq (v_stamp S (v_var rfl) v_c (v_var rfl)) v_c)) (fun e2 => ?_) (fun e2 => ?_)
  · have e' : Sv.stampZ m 1 b = 0 := by
      have := of_decide_eq_true e2
      omega
    rw [if_pos e'] at q
    exact n_l1 v_c fun p np => q.pure S (Same.refl _) np
  have e' : ¬ Sv.stampZ m 1 b = 0 := by
    have := of_decide_eq_false e2
    omega
  rw [if_neg e'] at q
  have hb := stamp_pos e'
  obtain ⟨k, rfl, hk⟩ := slotNat hz
  obtain ⟨j, rfl⟩ : ∃ j : Nat, b = (j : Int) := ⟨b.toNat, by omega⟩
  refine seq_drop (e_m2 (v_var rfl) (S.o0 (lk4 (by decide) (by decide) (by decide) (by decide))) (v_var rfl) (n_t2 v_c (v_var rfl) fun t nt => ?_))
  have s2 := same_upd (o := .tup [.int 1, nV j]) nt
  refine ⟨n, L, m, k, .ref t, .object j, rfl, S.same s2, W.six, hk, tupAt (x := .object j) S nt, fun H3 S3 F3 => ?_⟩
  refine ret1 (e_L1 (m_1 (v_var rfl) (S3.o0 (lk4 (by decide) (by decide) (by decide) (by decide))) (v_var rfl) ⟨n, L, _, j, rfl, S3, by omega, fun H4 S4 F4 => ⟨(by show 1 ≤ sizeLine; decide), fun p np => ?_⟩⟩))
  exact Got.fin q S4 (((Fr.ofSame S s2).trans F3).trans F4) np
theorem ok_import_foreign (F : Fun K "import_foreign" "import_foreign" s_import_foreign f fd) (T : Txt K mg c) (D_is_slot : Def P w K mg base "is_slot" ["number"] 1 (spB1 Sv.slotOk)) (D_is_foreign : Def P w K mg base "is_foreign" ["number"] 1 (spB1 Sv.foreignOk)) (D_Site_stamp_of : MDef P w K mg base c.Site "stamp_of" ["self", "kind", "number"] 1 (spStamp K c))
    (D_Names_use_import : MDef P w K mg base c.Names "use_import" ["self", "number"] 1 (spUseI K c)) (D_Site_put : MDef P w K mg base c.Site "put" ["self", "slot", "value"] 2 (spPut K c)) : FnOk P w K mg base CX0 3 f fd ["site", "foreign", "slot"] (spO2 K c Sv.opImport) := by
  refine F.ok sc_import_foreign spO2_len (fun cdv A outer s H vs Q E hr h => ⟨_, (pss_cons (ps_if (PW.pt (pw_or (pt_not (pt_val (pe_cd D_is_foreign (hr.mono (by decide)) rfl (pa_cons (pv 1) pa_nil)))) (pw_or1 (pt_not (pt_val (pe_cd D_is_slot (hr.mono (by decide)) rfl (pa_cons (pv 2) pa_nil))))))) (pss_one (ps_ret (pe_lst (pa_cons (pe_gi rfl T.gOUT_OF_RANGE) pa_nil)))) pss_nil) (pss_cons (ps_set (i := 3) sc_import_foreign.nd rfl (.inl rfl) (pe_ifExp (pt_cmpR op_eq (pe_md (pv 0) T.cSite D_Site_stamp_of (hr.mono (by decide)) (pa_cons (pe_gi rfl T.gFOREIGN) (pa_cons (pv 1) pa_nil))) pe_i (nomark _)) pe_i pe_i)) (pss_cons (ps_expr (pe_md (pv 0) T.cSite D_Site_put (hr.mono (by decide)) (pa_cons (pv 2) (pa_cons (pe_tup (pa_cons (pe_gi rfl T.gFOREIGN) (pa_cons (pv 1) pa_nil))) pa_nil)))) (pss_one (ps_ret (pe_lst (pa_cons (pv 3) (pa_cons (pe_md (pe_fld (pv 0) rfl) T.cNames D_Names_use_import (hr.mono (by decide)) (pa_cons (pv 1) pa_nil)) pa_nil)))))))), ?_⟩)
  obtain ⟨n, L, m, b, z, rfl, S, W, q⟩ := h
  unfold Sv.opImport at q
  refine seq_ret (a_or (a_not (a_B (v_b1 (v_var rfl)))) fun _ => a_not (a_B (v_b1 (v_var rfl)))) (fun e => ?_) (fun e => ?_)
  · rw [if_pos (or2_t e)] at q
    exact n_l1 v_c fun p np => q.pure S (Same.refl _) np
  obtain ⟨hb, hz⟩ := or2_f e
  rw [if_neg (tnf (by rw [hb, hz]; rfl))] at q
  obtain ⟨k, rfl, hk⟩ := slotNat hz
  obtain ⟨j, rfl, hj⟩ := foreignNat hb
  refine seq_set ((v_if (v := nV (Sv.flagN (decide (Sv.stampZ m 2 (j : Int) = 0)))) (a_test (v_eq (v_stamp S (v_var rfl) v_c (v_var rfl)) v_c)) (fun y => (v_c).to ?_) (fun y => (v_c).to ?_)) _ ?_)
  · have y' : Sv.stampZ m 2 (j : Int) = 0 := by
      have := of_decide_eq_true y
      omega
    rw [y']
    rfl
  · have y' : ¬ Sv.stampZ m 2 (j : Int) = 0 := by
      have := of_decide_eq_false y
      omega
    rw [decide_eq_false y']
    rfl
  refine seq_drop (e_m2 (v_var rfl) (S.o0 (lk4 (by decide) (by decide) (by decide) (by decide))) (v_var rfl) (n_t2 v_c (v_var rfl) fun t nt => ?_))
  have s2 := same_upd (o := .tup [.int 2, nV j]) nt
  refine ⟨n, L, m, k, .ref t, .foreign j, rfl, S.same s2, W.six, hk, tupAt (x := .foreign j) S nt, fun H3 S3 F3 => ?_⟩
  refine ret1 (e_l (e_cons (v_var rfl _ (e_cons (m_1 (v_names T S3 (v_var rfl)) (S3.o2 (lk3 (by decide) (by decide) (by decide))) (v_var rfl) ⟨n, L, _, j, rfl, S3, hj, fun H4 S4 F4 => e_nil ⟨(by show 2 ≤ sizeLine; decide), fun p np => ?_⟩⟩)))))
  exact Got.fin q S4 (((Fr.ofSame S s2).trans F3).trans F4) np
theorem ok_retire (F : Fun K "retire" "retire" s_retire f fd) (T : Txt K mg c) (D_Site_stamp_of : MDef P w K mg base c.Site "stamp_of" ["self", "kind", "number"] 1 (spStamp K c)) (D_Names_drop_entry : MDef P w K mg base c.Names "drop_entry" ["self", "number"] 1 (spDropE K c)) :
    FnOk P w K mg base CX0 2 f fd ["site", "number"] (spO1 K c Sv.opRetire) := by
  refine F.ok sc_retire spO1_len (fun cdv A outer s H vs Q E hr h => ⟨_, (pss_cons (ps_if (pt_cmpR op_eq (pe_md (pv 0) T.cSite D_Site_stamp_of (hr.mono (by decide)) (pa_cons (pe_gi rfl T.gOBJECT) (pa_cons (pv 1) pa_nil))) pe_i (nomark _)) (pss_one (ps_ret (pe_lst (pa_cons (pe_gi rfl T.gNOT_THERE) pa_nil)))) pss_nil) (pss_cons (ps_expr (pe_md (pe_fld (pv 0) rfl) T.cNames D_Names_drop_entry (hr.mono (by decide)) (pa_cons (pv 1) pa_nil))) (pss_one (ps_ret (pe_lst (pa_cons pe_i pa_nil)))))), ?_⟩)
  obtain ⟨n, L, m, b, rfl, S, W, q⟩ := h
  unfold Sv.opRetire at q
  refine seq_ret (a_test (v_eq (v_stamp S (v_var rfl) v_c (v_var rfl)) v_c)) (fun e2 => ?_) (fun e2 => ?_)
  · have e' : Sv.stampZ m 1 b = 0 := by
      have := of_decide_eq_true e2
      omega
    rw [if_pos e'] at q
    exact n_l1 v_c fun p np => q.pure S (Same.refl _) np
  have e' : ¬ Sv.stampZ m 1 b = 0 := by
    have := of_decide_eq_false e2
    omega
  rw [if_neg e'] at q
  have hb := stamp_pos e'
  obtain ⟨j, rfl⟩ : ∃ j : Nat, b = (j : Int) := ⟨b.toNat, by omega⟩
  refine seq_drop (m_1 (v_names T S (v_var rfl)) (S.o2 (lk3 (by decide) (by decide) (by decide))) (v_var rfl) ⟨n, L, m, j, rfl, S, by omega, fun H3 S3 F3 => ?_⟩)
  exact ret1 (n_l1 v_c fun p np => Got.fin q S3 F3 np)
theorem freed_few {m : Sv.M} : (Sv.freedOf m).length ≤ 40 := by
  have h1 := List.length_filter_le (fun n => decide (Vbxlaf.Value.object n ∉ Sv.allLed m)) (Sv.objectsNow m)
  have h2 := List.length_filter_le m.living (Sv.nums 40)
  have e2 : (Sv.nums 40).length = 40 := by decide
  unfold Sv.freedOf
  unfold Sv.objectsNow at h1 ⊢
  omega
theorem given_few {m : Sv.M} : (Sv.givenUp m).length ≤ 20 := Nat.le_trans (List.length_filter_le _ _) (imports_few m)
theorem ok_collect (F : Fun K "collect" "collect" s_collect f fd) (T : Txt K mg c) (D_all_led : Def P w K mg base "all_led" ["site"] 3 (spVals K c Sv.allLed)) (D_objects_now : Def P w K mg base "objects_now" ["site"] 1 (spObj K c)) (D_imports_now : Def P w K mg base "imports_now" ["site"] 1 (spImp K c))
    (D_Heap_drop : MDef P w K mg base c.Heap "drop" ["self", "number"] 1 (spDrop K c)) (D_Names_drop_import : MDef P w K mg base c.Names "drop_import" ["self", "number"] 1 (spDropI K c)) :
    FnOk P w K mg base CX0 4 f fd ["site"] (spO0 K c Sv.opCollect) := by
  refine F.ok sc_collect spO0_len (fun cdv A outer s H vs Q E hr h => ⟨_, (pss_cons (ps_set (i := 1) sc_collect.nd rfl (.inr rfl) (pe_cd D_all_led (hr.mono (by decide)) rfl (pa_cons (pv 0) pa_nil))) (pss_cons (ps_setLc (i := 2) (own := [("number", 4)]) (g := gName 4) (by rfl) sc_collect.nd rfl rfl (sw_true rfl rfl rfl (by decide +kernel)) (pi_list (pe_cd D_objects_now (hr.mono (by decide)) rfl (pa_cons (pv 0) pa_nil))) (blkOk_by (N := ["site", "led", "freed", "given_up", "number"]) (sc := defScope s_collect) (by decide +kernel)) (fun _ _ _ _ _ => pg_name (i := 4) sc_collect.nd rfl (Or.inl rfl)) (fun _ _ _ _ _ => (pts_one (pt_cmpR (op_notInDK (K := K) rfl (un65 hr)) (pe_tup (pa_cons (pe_gi rfl T.gOBJECT) (pa_cons (pv 4) pa_nil))) (pv 1) (by rfl)))) (fun _ _ _ _ _ => (pv 4))) (pss_cons (ps_setLc (i := 3) (own := [("number", 4)]) (g := gName 4) (by rfl) sc_collect.nd rfl rfl (sw_true rfl rfl rfl (by decide +kernel)) (pi_list (pe_cd D_imports_now (hr.mono (by decide)) rfl (pa_cons (pv 0) pa_nil))) (blkOk_by (N := ["site", "led", "freed", "given_up", "number"]) (sc := defScope s_collect) (by decide +kernel)) (fun _ _ _ _ _ => pg_name (i := 4) sc_collect.nd rfl (Or.inl rfl)) (fun _ _ _ _ _ => (pts_one (pt_cmpR (op_notInDK (K := K) rfl (un65 hr)) (pe_tup (pa_cons (pe_gi rfl T.gFOREIGN) (pa_cons (pv 4) pa_nil))) (pv 1) (by rfl)))) (fun _ _ _ _ _ => (pv 4))) (pss_cons (ps_for PassesOwn.never rfl (pi_list (pv 2)) (pg_name (i := 4) sc_collect.nd rfl (.inl rfl)) (pss_one (ps_expr (pe_md (pe_fld (pv 0) rfl) T.cHeap D_Heap_drop (hr.mono (by decide)) (pa_cons (pv 4) pa_nil))))) (pss_cons (ps_for PassesOwn.never rfl (pi_list (pv 3)) (pg_name (i := 4) sc_collect.nd rfl (.inl rfl)) (pss_one (ps_expr (pe_md (pe_fld (pv 0) rfl) T.cNames D_Names_drop_import (hr.mono (by decide)) (pa_cons (pv 4) pa_nil))))) (pss_one (ps_ret (pe_op op_cat (pe_op op_cat (pe_op op_cat (pe_lst (pa_cons (pe_callB call_len_seq (by rfl) T.len PySem.boot_len (pa_cons (pv 2) pa_nil)) pa_nil)) (pv 2)) (pe_lst (pa_cons (pe_callB call_len_seq (by rfl) T.len PySem.boot_len (pa_cons (pv 3) pa_nil)) pa_nil))) (pv 3))))))))), ?_⟩)
  obtain ⟨n, L, m, rfl, S, W, q⟩ := h
  unfold Sv.opCollect at q
  refine seq_set (c_1 (v_var rfl) ⟨n, L, m, rfl, S, W, fun H1 p1 fv s1 n1 h1 hv1 => ?_⟩)
  refine seq_set ?_
  refine lcE (iL (c_1 (v_var rfl) ⟨n, L, m, rfl, S.same s1, fun H2 p2 s2 n2 h2 => ⟨p2, rfl, ⟨_, SqL.of h2⟩, ?_⟩⟩))
  intro D nD
  have hol : (Sv.objectsNow m).length ≤ 100000 := by
    have h2 := List.length_filter_le m.living (Sv.nums 40)
    have e2 : (Sv.nums 40).length = 40 := by decide
    unfold Sv.objectsNow
    omega
  refine lc_filt (ns := Sv.objectsNow m) (p := fun y => decide (Vbxlaf.Value.object y ∉ Sv.allLed m)) (SqL.of h2) nD hol (fun y H' hy e Yc Nc hY hN => ⟨rfl, ?_⟩) fun H3 s3 h3 => ?_
  · have s12 := s2.trans e
    refine t_T (e_op (n_t2 v_c (v_var rfl) fun t nt => ⟨_, rfl, ?_⟩))
    have st := same_upd (o := .tup [.int 1, nV y]) nt
    have key : VAt K (upd H' t (.tup [.int 1, nV y])) (.ref t) (.object y) := VAt.new upd_same
    have kl := SqL.of (K := K) (st _ _ (s12 _ _ h1))
    have kv := hv1.mono (s12.trans st)
    generalize Sv.allLed m = al at kv hY hN
    refine rd_notIn key kl kv ?_
    refine ⟨_, rfl, ?_⟩
    by_cases z : Vbxlaf.Value.object y ∈ al
    · exact ifF (ndF z) (hN (decide_eq_false fun k => k z) _ st)
    · exact ifT (nd z) ⟨_, rfl, hY (decide_eq_true z) _ st⟩
  have h3' : H3 D = some (.lst ((Sv.freedOf m).map nV)) := h3
  have s13 := (s1.trans s2).trans s3
  refine seq_set ?_
  refine lcE (iL (c_1 (v_var rfl) ⟨n, L, m, rfl, S.same s13, fun H4 p4 s4 n4 h4 => ⟨p4, rfl, ⟨_, SqL.of h4⟩, ?_⟩⟩))
  intro D2 nD2
  refine lc_filt (ns := Sv.importsNow m) (p := fun y => decide (Vbxlaf.Value.foreign y ∉ Sv.allLed m)) (SqL.of h4) nD2 (Nat.le_trans (imports_few m) (by decide)) (fun y H' hy e Yc Nc hY hN => ⟨rfl, ?_⟩) fun H5 s5 h5 => ?_
  · have s14 := ((s2.trans s3).trans s4).trans e
    refine t_T (e_op (n_t2 v_c (v_var rfl) fun t nt => ⟨_, rfl, ?_⟩))
    have st := same_upd (o := .tup [.int 2, nV y]) nt
    have key : VAt K (upd H' t (.tup [.int 2, nV y])) (.ref t) (.foreign y) := VAt.new upd_same
    have kl := SqL.of (K := K) (st _ _ (s14 _ _ h1))
    have kv := hv1.mono (s14.trans st)
    generalize Sv.allLed m = al at kv hY hN
    refine rd_notIn key kl kv ?_
    refine ⟨_, rfl, ?_⟩
    by_cases z : Vbxlaf.Value.foreign y ∈ al
    · exact ifF (ndF z) (hN (decide_eq_false fun k => k z) _ st)
    · exact ifT (nd z) ⟨_, rfl, hY (decide_eq_true z) _ st⟩
  have h5' : H5 D2 = some (.lst ((Sv.givenUp m).map nV)) := h5
  have s15 := (s13.trans s4).trans s5
  have S5 := S.same s15
  have nf1 : ¬ Foot n L D := (S.same (s1.trans s2)).new nD
  have nf2 : ¬ Foot n L D2 := (S.same (s13.trans s4)).new nD2
  have k1 : off n L H5 D = some (.lst ((Sv.freedOf m).map nV)) := off_some.mpr ⟨s5 _ _ (s4 _ _ h3'), nf1⟩
  have k2 : off n L H5 D2 = some (.lst ((Sv.givenUp m).map nV)) := off_some.mpr ⟨h5', nf2⟩
  clear h1 hv1 h2 h4
  refine seq_forL (v_var rfl) (SqL.of (off_some.mp k1).1) (fun i σ H' => ∃ y L', σ = [some (.ref (L 0)), some (.ref p1), some (.ref D), some (.ref D2), y] ∧ SiteAt K c n L' H' (((Sv.freedOf m).take i).foldl Sv.dropObj m) ∧ Fr n L H5 L' H')
    ⟨_, L, rfl, S5, Fr.refl⟩ (fun i σ H' _ ⟨_, L', _, S', F'⟩ => SqL.of (off_sub _ _ (F'.same _ _ k1))) ?_ ?_
  · rintro i v σ H' hi ⟨y, L', rfl, S', F'⟩
    obtain ⟨x, hx, rfl⟩ := nV_get hi
    have hx2 := (Sv.mem_freed W).mp (List.mem_of_getElem? hx)
    have hx3 := (W.lv x hx2.1).2
    have hx4 := W.most
    refine drop1 (m_1 (v_heap T S' (by rw [F'.zero]; exact v_var rfl)) (S'.o1 (lk4 (by decide) (by decide) (by decide) (by decide))) (v_var rfl) ⟨n, L', _, x, rfl, S', by omega, fun L2 H2 S2 F2 _ => ⟨_, L2, rfl, ?_, F'.trans F2⟩⟩)
    rw [take_more hx, List.foldl_append]
    exact S2
  rintro σ H6 ⟨y, L6, rfl, S6, F6⟩
  rw [List.length_map, List.take_length] at S6
  refine seq_forL (v_var rfl) (SqL.of (off_sub _ _ (F6.same _ _ k2))) (fun i σ H' => ∃ y L', σ = [some (.ref (L 0)), some (.ref p1), some (.ref D), some (.ref D2), y] ∧ SiteAt K c n L' H' (((Sv.givenUp m).take i).foldl Sv.dropImp ((Sv.freedOf m).foldl Sv.dropObj m)) ∧ Fr n L H5 L' H')
    ⟨_, L6, rfl, S6, F6⟩ (fun i σ H' _ ⟨_, L', _, S', F'⟩ => SqL.of (off_sub _ _ (F'.same _ _ k2))) ?_ ?_
  · rintro i v σ H' hi ⟨y, L', rfl, S', F'⟩
    obtain ⟨x, hx, rfl⟩ := nV_get hi
    have hx2 := (Sv.mem_given W).mp (List.mem_of_getElem? hx)
    have hx3 := (W.imp x hx2.1).2
    refine drop1 (m_1 (v_names T S' (by rw [F'.zero]; exact v_var rfl)) (S'.o2 (lk3 (by decide) (by decide) (by decide))) (v_var rfl) ⟨n, L', _, x, rfl, S', by omega, fun H2 S2 F2 => ⟨_, L', rfl, ?_, F'.trans F2⟩⟩)
    rw [take_more hx, List.foldl_append]
    exact S2
  rintro σ H7 ⟨y, L7, rfl, S7, F7⟩
  rw [List.length_map, List.take_length] at S7
  have g1 := off_sub _ _ (F7.same _ _ k1)
  have g2 := off_sub _ _ (F7.same _ _ k2)
  have fe := freed_few (m := m)
  have ge := given_few (m := m)
  refine ret1 (e_op (e_op (e_op (n_l1 (v_len (v_var rfl) (SqL.of g1)) fun l1 nl1 => ⟨_, rfl, ?_⟩))))
  have t1 := same_upd (o := .lst [nV ((Sv.freedOf m).map nV).length]) nl1
  refine ⟨l1, D, _, _, rfl, rfl, upd_same, t1 _ _ g1, few' (by rw [List.length_map]; show 1 + _ ≤ _; omega), fun l2 nl2 => ?_⟩
  have t2 := t1.trans (same_upd (o := .lst ([nV ((Sv.freedOf m).map nV).length] ++ (Sv.freedOf m).map nV)) nl2)
  refine n_l1 (v_len (v_var rfl) (SqL.of (t2 _ _ g2))) fun l3 nl3 => ?_
  have u3 := same_upd (o := .lst [nV ((Sv.givenUp m).map nV).length]) nl3
  refine ⟨l2, l3, _, _, rfl, rfl, u3 _ _ upd_same, upd_same, few' (by rw [List.length_append, List.length_map]; show 1 + _ + 1 ≤ _; omega), fun l4 nl4 => ⟨_, rfl, ?_⟩⟩
  have t4 := (t2.trans u3).trans (same_upd (o := .lst ([nV ((Sv.freedOf m).map nV).length] ++ (Sv.freedOf m).map nV ++ [nV ((Sv.givenUp m).map nV).length])) nl4)
  refine ⟨l4, D2, _, _, rfl, rfl, upd_same, t4 _ _ g2, few' (by rw [List.length_append, List.length_append, List.length_map, List.length_map]; show 1 + _ + 1 + _ ≤ _; omega), fun l5 nl5 => ?_⟩
  have el : [nV ((Sv.freedOf m).map nV).length] ++ (Sv.freedOf m).map nV ++ [nV ((Sv.givenUp m).map nV).length] ++ (Sv.givenUp m).map nV = List.map V.int (((Sv.freedOf m).length : Int) :: Sv.intL (Sv.freedOf m) ++ ((Sv.givenUp m).length : Int) :: Sv.intL (Sv.givenUp m)) := by
    simp only [List.map_append, List.map_cons, List.map_nil, ints_map, List.length_map, List.append_assoc, List.cons_append, List.nil_append]
    rfl
  rw [el]
  exact Got.fin q (S7.same t4) (((Fr.ofSame S s15).trans F7).trans (Fr.ofSame S7 t4)) nl5
end
end Sw
end
section
set_option maxHeartbeats 1000000
namespace Sw
open PySem PySem.Spec PyProof.Rows L2
section
variable {P : Program} {w : World} {K : PySem.W.Frag} {mg : Str → Option Value} {base : Heap} {c : Cad} {f : Addr} {fd : FuncData}
/-- one operation of a range of numbers -/
def spOp (K : PySem.W.Frag) (c : Cad) (lo hi : Nat) : Sp := fun vs H Q _ => ∃ n L m, ∃ p : Nat, ∃ b : Addr, ∃ g : List Int, vs = [.ref (L 0), nV p, .ref b] ∧ lo ≤ p ∧ p < hi ∧ SiteAt K c n L H m ∧ Sv.Wf m ∧ H b = some (.lst (g.map V.int)) ∧ Sv.sizes[p]? = some g.length ∧ Got K c n L H (Sv.opM m (Sv.callN p g)) Q
theorem spOp_len {lo hi : Nat} : ∀ vs H Q E, spOp K c lo hi vs H Q E → vs.length = 3 := fun vs H Q E h => by
  obtain ⟨n, L, m, p, b, g, rfl, _⟩ := h
  rfl
theorem g0 {g : List Int} {k : Nat} (h : some k = some g.length) (e : k = 0) : g = [] := Sv.len0 ((Option.some.inj h).symm.trans e)
theorem g1 {g : List Int} {k : Nat} (h : some k = some g.length) (e : k = 1) : ∃ a, g = [a] := Sv.len1 ((Option.some.inj h).symm.trans e)
theorem g2 {g : List Int} {k : Nat} (h : some k = some g.length) (e : k = 2) : ∃ a b, g = [a, b] := Sv.len2 ((Option.some.inj h).symm.trans e)
theorem g3 {g : List Int} {k : Nat} (h : some k = some g.length) (e : k = 3) : ∃ a b d, g = [a, b, d] := Sv.len3 ((Option.some.inj h).symm.trans e)

theorem ok_program_answer (F : Fun K "program_answer" "program_answer" s_program_answer f fd) (T : Txt K mg c)
    (D_create : Def P w K mg base "create" ["site", "slot", "field_count"] 3 (spO2 K c Sv.opCreate))
    (D_copy_slot : Def P w K mg base "copy_slot" ["site", "target", "source"] 3 (spO2 K c Sv.opCopy))
    (D_clear_slot : Def P w K mg base "clear_slot" ["site", "slot"] 3 (spO1 K c Sv.opClear))
    (D_read_field : Def P w K mg base "read_field" ["site", "target", "source", "field"] 3 (spO3 K c Sv.opRead))
    (D_write_field : Def P w K mg base "write_field" ["site", "target", "field", "source"] 3 (spO3 K c Sv.opWrite))
    : FnOk P w K mg base CX0 4 f fd ["site", "operation", "given"] (spOp K c 0 5) := by
  refine F.ok sc_program_answer spOp_len (fun cdv A outer s H vs Q E hr h => ⟨_, (pss_cons (ps_if (pt_cmpR op_eq (pv 1) pe_i (nomark _)) (pss_one (ps_ret (pe_cd D_create (hr.mono (by decide)) rfl (pa_cons (pv 0) (pa_cons (pe_ix ix_list (pv 2) pe_i (fun _ _ => rfl)) (pa_cons (pe_ix ix_list (pv 2) pe_i (fun _ _ => rfl)) pa_nil)))))) pss_nil) (pss_cons (ps_if (pt_cmpR op_eq (pv 1) pe_i (nomark _)) (pss_one (ps_ret (pe_cd D_copy_slot (hr.mono (by decide)) rfl (pa_cons (pv 0) (pa_cons (pe_ix ix_list (pv 2) pe_i (fun _ _ => rfl)) (pa_cons (pe_ix ix_list (pv 2) pe_i (fun _ _ => rfl)) pa_nil)))))) pss_nil) (pss_cons (ps_if (pt_cmpR op_eq (pv 1) pe_i (nomark _)) (pss_one (ps_ret (pe_cd D_clear_slot (hr.mono (by decide)) rfl (pa_cons (pv 0) (pa_cons (pe_ix ix_list (pv 2) pe_i (fun _ _ => rfl)) pa_nil))))) pss_nil) (pss_cons (ps_if (pt_cmpR op_eq (pv 1) pe_i (nomark _)) (pss_one (ps_ret (pe_cd D_read_field (hr.mono (by decide)) rfl (pa_cons (pv 0) (pa_cons (pe_ix ix_list (pv 2) pe_i (fun _ _ => rfl)) (pa_cons (pe_ix ix_list (pv 2) pe_i (fun _ _ => rfl)) (pa_cons (pe_ix ix_list (pv 2) pe_i (fun _ _ => rfl)) pa_nil))))))) pss_nil) (pss_one (ps_ret (pe_cd D_write_field (hr.mono (by decide)) rfl (pa_cons (pv 0) (pa_cons (pe_ix ix_list (pv 2) pe_i (fun _ _ => rfl)) (pa_cons (pe_ix ix_list (pv 2) pe_i (fun _ _ => rfl)) (pa_cons (pe_ix ix_list (pv 2) pe_i (fun _ _ => rfl)) pa_nil))))))))))), ?_⟩)
  obtain ⟨n, L, m, p, b, g, rfl, h1, h2, S, W, hb, hs, q⟩ := h
  refine seq_ret (a_test (v_eq (v_var rfl) v_c)) (fun e => ?_) (fun e => ?_)
  · obtain rfl : p = 0 := by
      have := of_decide_eq_true e
      omega
    obtain ⟨a, d, rfl⟩ := g2 hs rfl
    exact c_3 (v_var rfl) (v_ixN (k := 0) (v_var rfl) v_c (SqL.of hb) rfl) (v_ixN (k := 1) (v_var rfl) v_c (SqL.of hb) rfl) ⟨n, L, m, a, d, rfl, S, W, q⟩
  have n0 : p ≠ 0 := by
    have := of_decide_eq_false e
    omega
  refine seq_ret (a_test (v_eq (v_var rfl) v_c)) (fun e => ?_) (fun e => ?_)
  · obtain rfl : p = 1 := by
      have := of_decide_eq_true e
      omega
    obtain ⟨a, d, rfl⟩ := g2 hs rfl
    exact c_3 (v_var rfl) (v_ixN (k := 0) (v_var rfl) v_c (SqL.of hb) rfl) (v_ixN (k := 1) (v_var rfl) v_c (SqL.of hb) rfl) ⟨n, L, m, a, d, rfl, S, W, q⟩
  have n1 : p ≠ 1 := by
    have := of_decide_eq_false e
    omega
  refine seq_ret (a_test (v_eq (v_var rfl) v_c)) (fun e => ?_) (fun e => ?_)
  · obtain rfl : p = 2 := by
      have := of_decide_eq_true e
      omega
    obtain ⟨a, rfl⟩ := g1 hs rfl
    exact c_2 (v_var rfl) (v_ixN (k := 0) (v_var rfl) v_c (SqL.of hb) rfl) ⟨n, L, m, a, rfl, S, W, q⟩
  have n2 : p ≠ 2 := by
    have := of_decide_eq_false e
    omega
  refine seq_ret (a_test (v_eq (v_var rfl) v_c)) (fun e => ?_) (fun e => ?_)
  · obtain rfl : p = 3 := by
      have := of_decide_eq_true e
      omega
    obtain ⟨a, d, u, rfl⟩ := g3 hs rfl
    exact c_4 (v_var rfl) (v_ixN (k := 0) (v_var rfl) v_c (SqL.of hb) rfl) (v_ixN (k := 1) (v_var rfl) v_c (SqL.of hb) rfl) (v_ixN (k := 2) (v_var rfl) v_c (SqL.of hb) rfl) ⟨n, L, m, a, d, u, rfl, S, W, q⟩
  have n3 : p ≠ 3 := by
    have := of_decide_eq_false e
    omega
  obtain rfl : p = 4 := by omega
  obtain ⟨a, d, u, rfl⟩ := g3 hs rfl
  exact ret1 (c_4 (v_var rfl) (v_ixN (k := 0) (v_var rfl) v_c (SqL.of hb) rfl) (v_ixN (k := 1) (v_var rfl) v_c (SqL.of hb) rfl) (v_ixN (k := 2) (v_var rfl) v_c (SqL.of hb) rfl) ⟨n, L, m, a, d, u, rfl, S, W, q⟩)
theorem ok_traffic_answer (F : Fun K "traffic_answer" "traffic_answer" s_traffic_answer f fd) (T : Txt K mg c)
    (D_export : Def P w K mg base "export" ["site", "slot"] 3 (spO1 K c Sv.opExport))
    (D_arrive : Def P w K mg base "arrive" ["site", "number", "slot"] 3 (spO2 K c Sv.opArrive))
    (D_import_foreign : Def P w K mg base "import_foreign" ["site", "foreign", "slot"] 3 (spO2 K c Sv.opImport))
    (D_retire : Def P w K mg base "retire" ["site", "number"] 2 (spO1 K c Sv.opRetire))
    (D_collect : Def P w K mg base "collect" ["site"] 4 (spO0 K c Sv.opCollect))
    : FnOk P w K mg base CX0 5 f fd ["site", "operation", "given"] (spOp K c 5 10) := by
  refine F.ok sc_traffic_answer spOp_len (fun cdv A outer s H vs Q E hr h => ⟨_, (pss_cons (ps_if (pt_cmpR op_eq (pv 1) pe_i (nomark _)) (pss_one (ps_ret (pe_cd D_export (hr.mono (by decide)) rfl (pa_cons (pv 0) (pa_cons (pe_ix ix_list (pv 2) pe_i (fun _ _ => rfl)) pa_nil))))) pss_nil) (pss_cons (ps_if (pt_cmpR op_eq (pv 1) pe_i (nomark _)) (pss_one (ps_ret (pe_cd D_arrive (hr.mono (by decide)) rfl (pa_cons (pv 0) (pa_cons (pe_ix ix_list (pv 2) pe_i (fun _ _ => rfl)) (pa_cons (pe_ix ix_list (pv 2) pe_i (fun _ _ => rfl)) pa_nil)))))) pss_nil) (pss_cons (ps_if (pt_cmpR op_eq (pv 1) pe_i (nomark _)) (pss_one (ps_ret (pe_cd D_import_foreign (hr.mono (by decide)) rfl (pa_cons (pv 0) (pa_cons (pe_ix ix_list (pv 2) pe_i (fun _ _ => rfl)) (pa_cons (pe_ix ix_list (pv 2) pe_i (fun _ _ => rfl)) pa_nil)))))) pss_nil) (pss_cons (ps_if (pt_cmpR op_eq (pv 1) pe_i (nomark _)) (pss_one (ps_ret (pe_cd D_retire (hr.mono (by decide)) rfl (pa_cons (pv 0) (pa_cons (pe_ix ix_list (pv 2) pe_i (fun _ _ => rfl)) pa_nil))))) pss_nil) (pss_one (ps_ret (pe_cd D_collect (hr.mono (by decide)) rfl (pa_cons (pv 0) pa_nil)))))))), ?_⟩)
  obtain ⟨n, L, m, p, b, g, rfl, h1, h2, S, W, hb, hs, q⟩ := h
  refine seq_ret (a_test (v_eq (v_var rfl) v_c)) (fun e => ?_) (fun e => ?_)
  · obtain rfl : p = 5 := by
      have := of_decide_eq_true e
      omega
    obtain ⟨a, rfl⟩ := g1 hs rfl
    exact c_2 (v_var rfl) (v_ixN (k := 0) (v_var rfl) v_c (SqL.of hb) rfl) ⟨n, L, m, a, rfl, S, W, q⟩
  have n0 : p ≠ 5 := by
    have := of_decide_eq_false e
    omega
  refine seq_ret (a_test (v_eq (v_var rfl) v_c)) (fun e => ?_) (fun e => ?_)
  · obtain rfl : p = 6 := by
      have := of_decide_eq_true e
      omega
    obtain ⟨a, d, rfl⟩ := g2 hs rfl
    exact c_3 (v_var rfl) (v_ixN (k := 0) (v_var rfl) v_c (SqL.of hb) rfl) (v_ixN (k := 1) (v_var rfl) v_c (SqL.of hb) rfl) ⟨n, L, m, a, d, rfl, S, W, q⟩
  have n1 : p ≠ 6 := by
    have := of_decide_eq_false e
    omega
  refine seq_ret (a_test (v_eq (v_var rfl) v_c)) (fun e => ?_) (fun e => ?_)
  · obtain rfl : p = 7 := by
      have := of_decide_eq_true e
      omega
    obtain ⟨a, d, rfl⟩ := g2 hs rfl
    exact c_3 (v_var rfl) (v_ixN (k := 0) (v_var rfl) v_c (SqL.of hb) rfl) (v_ixN (k := 1) (v_var rfl) v_c (SqL.of hb) rfl) ⟨n, L, m, a, d, rfl, S, W, q⟩
  have n2 : p ≠ 7 := by
    have := of_decide_eq_false e
    omega
  refine seq_ret (a_test (v_eq (v_var rfl) v_c)) (fun e => ?_) (fun e => ?_)
  · obtain rfl : p = 8 := by
      have := of_decide_eq_true e
      omega
    obtain ⟨a, rfl⟩ := g1 hs rfl
    exact c_2 (v_var rfl) (v_ixN (k := 0) (v_var rfl) v_c (SqL.of hb) rfl) ⟨n, L, m, a, rfl, S, W, q⟩
  have n3 : p ≠ 8 := by
    have := of_decide_eq_false e
    omega
  obtain rfl : p = 9 := by omega
  obtain rfl := g0 hs rfl
  exact ret1 (c_1 (v_var rfl) ⟨n, L, m, rfl, S, W, q⟩)
theorem ok_asking_answer (F : Fun K "asking_answer" "asking_answer" s_asking_answer f fd) (T : Txt K mg c)
    (D_make_survey : Def P w K mg base "make_survey" ["site"] 6 (spO0 K c Sv.opUpdate))
    (D_show_survey : Def P w K mg base "show_survey" ["site", "index"] 2 (spO1 K c fun m z => (m, Sv.outSurvey m z)))
    (D_tell_current : Def P w K mg base "tell_current" ["site", "index", "kind", "number"] 4 (spO3 K c fun m a b d => (m, Sv.outCurrent m a b d)))
    (D_show_lines : Def P w K mg base "show_lines" ["site"] 6 (spO0 K c fun m => (m, Sv.outLines m)))
    (D_show_affected : Def P w K mg base "show_affected" ["site"] 6 (spO0 K c fun m => (m, Sv.outAffected m)))
    : FnOk P w K mg base CX0 7 f fd ["site", "operation", "given"] (spOp K c 10 15) := by
  refine F.ok sc_asking_answer spOp_len (fun cdv A outer s H vs Q E hr h => ⟨_, (pss_cons (ps_if (pt_cmpR op_eq (pv 1) pe_i (nomark _)) (pss_one (ps_ret (pe_cd D_make_survey (hr.mono (by decide)) rfl (pa_cons (pv 0) pa_nil)))) pss_nil) (pss_cons (ps_if (pt_cmpR op_eq (pv 1) pe_i (nomark _)) (pss_one (ps_ret (pe_cd D_show_survey (hr.mono (by decide)) rfl (pa_cons (pv 0) (pa_cons (pe_ix ix_list (pv 2) pe_i (fun _ _ => rfl)) pa_nil))))) pss_nil) (pss_cons (ps_if (pt_cmpR op_eq (pv 1) pe_i (nomark _)) (pss_one (ps_ret (pe_cd D_tell_current (hr.mono (by decide)) rfl (pa_cons (pv 0) (pa_cons (pe_ix ix_list (pv 2) pe_i (fun _ _ => rfl)) (pa_cons (pe_ix ix_list (pv 2) pe_i (fun _ _ => rfl)) (pa_cons (pe_ix ix_list (pv 2) pe_i (fun _ _ => rfl)) pa_nil))))))) pss_nil) (pss_cons (ps_if (pt_cmpR op_eq (pv 1) pe_i (nomark _)) (pss_one (ps_ret (pe_cd D_show_lines (hr.mono (by decide)) rfl (pa_cons (pv 0) pa_nil)))) pss_nil) (pss_one (ps_ret (pe_cd D_show_affected (hr.mono (by decide)) rfl (pa_cons (pv 0) pa_nil)))))))), ?_⟩)
  obtain ⟨n, L, m, p, b, g, rfl, h1, h2, S, W, hb, hs, q⟩ := h
  refine seq_ret (a_test (v_eq (v_var rfl) v_c)) (fun e => ?_) (fun e => ?_)
  · obtain rfl : p = 10 := by
      have := of_decide_eq_true e
      omega
    obtain rfl := g0 hs rfl
    exact c_1 (v_var rfl) ⟨n, L, m, rfl, S, W, q⟩
  have n0 : p ≠ 10 := by
    have := of_decide_eq_false e
    omega
  refine seq_ret (a_test (v_eq (v_var rfl) v_c)) (fun e => ?_) (fun e => ?_)
  · obtain rfl : p = 11 := by
      have := of_decide_eq_true e
      omega
    obtain ⟨a, rfl⟩ := g1 hs rfl
    exact c_2 (v_var rfl) (v_ixN (k := 0) (v_var rfl) v_c (SqL.of hb) rfl) ⟨n, L, m, a, rfl, S, W, q⟩
  have n1 : p ≠ 11 := by
    have := of_decide_eq_false e
    omega
  refine seq_ret (a_test (v_eq (v_var rfl) v_c)) (fun e => ?_) (fun e => ?_)
  · obtain rfl : p = 12 := by
      have := of_decide_eq_true e
      omega
    obtain ⟨a, d, u, rfl⟩ := g3 hs rfl
    exact c_4 (v_var rfl) (v_ixN (k := 0) (v_var rfl) v_c (SqL.of hb) rfl) (v_ixN (k := 1) (v_var rfl) v_c (SqL.of hb) rfl) (v_ixN (k := 2) (v_var rfl) v_c (SqL.of hb) rfl) ⟨n, L, m, a, d, u, rfl, S, W, q⟩
  have n2 : p ≠ 12 := by
    have := of_decide_eq_false e
    omega
  refine seq_ret (a_test (v_eq (v_var rfl) v_c)) (fun e => ?_) (fun e => ?_)
  · obtain rfl : p = 13 := by
      have := of_decide_eq_true e
      omega
    obtain rfl := g0 hs rfl
    exact c_1 (v_var rfl) ⟨n, L, m, rfl, S, W, q⟩
  have n3 : p ≠ 13 := by
    have := of_decide_eq_false e
    omega
  obtain rfl : p = 14 := by omega
  obtain rfl := g0 hs rfl
  exact ret1 (c_1 (v_var rfl) ⟨n, L, m, rfl, S, W, q⟩)
theorem ok_looking_answer (F : Fun K "looking_answer" "looking_answer" s_looking_answer f fd) (T : Txt K mg c)
    (D_show_path : Def P w K mg base "show_path" ["site", "source", "kind", "number"] 3 (spO3 K c fun m a b d => (m, Sv.outPath m a b d)))
    (D_show_stamp : Def P w K mg base "show_stamp" ["site", "kind", "number"] 2 (spO2 K c fun m a b => (m, Sv.outStamp m a b)))
    (D_show_object : Def P w K mg base "show_object" ["site", "number"] 2 (spO1 K c fun m z => (m, Sv.outObject m z)))
    (D_show_slots : Def P w K mg base "show_slots" ["site"] 2 (spO0 K c fun m => (m, Sv.pairsFlat m.slots)))
    (D_show_status : Def P w K mg base "show_status" ["site"] 2 (spO0 K c fun m => (m, Sv.outStatus m)))
    : FnOk P w K mg base CX0 4 f fd ["site", "operation", "given"] (spOp K c 15 20) := by
  refine F.ok sc_looking_answer spOp_len (fun cdv A outer s H vs Q E hr h => ⟨_, (pss_cons (ps_if (pt_cmpR op_eq (pv 1) pe_i (nomark _)) (pss_one (ps_ret (pe_cd D_show_path (hr.mono (by decide)) rfl (pa_cons (pv 0) (pa_cons (pe_ix ix_list (pv 2) pe_i (fun _ _ => rfl)) (pa_cons (pe_ix ix_list (pv 2) pe_i (fun _ _ => rfl)) (pa_cons (pe_ix ix_list (pv 2) pe_i (fun _ _ => rfl)) pa_nil))))))) pss_nil) (pss_cons (ps_if (pt_cmpR op_eq (pv 1) pe_i (nomark _)) (pss_one (ps_ret (pe_cd D_show_stamp (hr.mono (by decide)) rfl (pa_cons (pv 0) (pa_cons (pe_ix ix_list (pv 2) pe_i (fun _ _ => rfl)) (pa_cons (pe_ix ix_list (pv 2) pe_i (fun _ _ => rfl)) pa_nil)))))) pss_nil) (pss_cons (ps_if (pt_cmpR op_eq (pv 1) pe_i (nomark _)) (pss_one (ps_ret (pe_cd D_show_object (hr.mono (by decide)) rfl (pa_cons (pv 0) (pa_cons (pe_ix ix_list (pv 2) pe_i (fun _ _ => rfl)) pa_nil))))) pss_nil) (pss_cons (ps_if (pt_cmpR op_eq (pv 1) pe_i (nomark _)) (pss_one (ps_ret (pe_cd D_show_slots (hr.mono (by decide)) rfl (pa_cons (pv 0) pa_nil)))) pss_nil) (pss_one (ps_ret (pe_cd D_show_status (hr.mono (by decide)) rfl (pa_cons (pv 0) pa_nil)))))))), ?_⟩)
  obtain ⟨n, L, m, p, b, g, rfl, h1, h2, S, W, hb, hs, q⟩ := h
  refine seq_ret (a_test (v_eq (v_var rfl) v_c)) (fun e => ?_) (fun e => ?_)
  · obtain rfl : p = 15 := by
      have := of_decide_eq_true e
      omega
    obtain ⟨a, d, u, rfl⟩ := g3 hs rfl
    exact c_4 (v_var rfl) (v_ixN (k := 0) (v_var rfl) v_c (SqL.of hb) rfl) (v_ixN (k := 1) (v_var rfl) v_c (SqL.of hb) rfl) (v_ixN (k := 2) (v_var rfl) v_c (SqL.of hb) rfl) ⟨n, L, m, a, d, u, rfl, S, W, q⟩
  have n0 : p ≠ 15 := by
    have := of_decide_eq_false e
    omega
  refine seq_ret (a_test (v_eq (v_var rfl) v_c)) (fun e => ?_) (fun e => ?_)
  · obtain rfl : p = 16 := by
      have := of_decide_eq_true e
      omega
    obtain ⟨a, d, rfl⟩ := g2 hs rfl
    exact c_3 (v_var rfl) (v_ixN (k := 0) (v_var rfl) v_c (SqL.of hb) rfl) (v_ixN (k := 1) (v_var rfl) v_c (SqL.of hb) rfl) ⟨n, L, m, a, d, rfl, S, W, q⟩
  have n1 : p ≠ 16 := by
    have := of_decide_eq_false e
    omega
  refine seq_ret (a_test (v_eq (v_var rfl) v_c)) (fun e => ?_) (fun e => ?_)
  · obtain rfl : p = 17 := by
      have := of_decide_eq_true e
      omega
    obtain ⟨a, rfl⟩ := g1 hs rfl
    exact c_2 (v_var rfl) (v_ixN (k := 0) (v_var rfl) v_c (SqL.of hb) rfl) ⟨n, L, m, a, rfl, S, W, q⟩
  have n2 : p ≠ 17 := by
    have := of_decide_eq_false e
    omega
  refine seq_ret (a_test (v_eq (v_var rfl) v_c)) (fun e => ?_) (fun e => ?_)
  · obtain rfl : p = 18 := by
      have := of_decide_eq_true e
      omega
    obtain rfl := g0 hs rfl
    exact c_1 (v_var rfl) ⟨n, L, m, rfl, S, W, q⟩
  have n3 : p ≠ 18 := by
    have := of_decide_eq_false e
    omega
  obtain rfl : p = 19 := by omega
  obtain rfl := g0 hs rfl
  exact ret1 (c_1 (v_var rfl) ⟨n, L, m, rfl, S, W, q⟩)
theorem ok_one_answer (F : Fun K "one_answer" "one_answer" s_one_answer f fd) (T : Txt K mg c)
    (D_program_answer : Def P w K mg base "program_answer" ["site", "operation", "given"] 4 (spOp K c 0 5))
    (D_traffic_answer : Def P w K mg base "traffic_answer" ["site", "operation", "given"] 5 (spOp K c 5 10))
    (D_asking_answer : Def P w K mg base "asking_answer" ["site", "operation", "given"] 7 (spOp K c 10 15))
    (D_looking_answer : Def P w K mg base "looking_answer" ["site", "operation", "given"] 4 (spOp K c 15 20))
    : FnOk P w K mg base CX0 8 f fd ["site", "operation", "given"] (spOp K c 0 20) := by
  refine F.ok sc_one_answer spOp_len (fun cdv A outer s H vs Q E hr h => ⟨_, (pss_cons (ps_if (pt_cmpR op_lt (pv 1) pe_i (nomark _)) (pss_one (ps_ret (pe_cd D_program_answer (hr.mono (by decide)) rfl (pa_cons (pv 0) (pa_cons (pv 1) (pa_cons (pv 2) pa_nil)))))) pss_nil) (pss_cons (ps_if (pt_cmpR op_lt (pv 1) pe_i (nomark _)) (pss_one (ps_ret (pe_cd D_traffic_answer (hr.mono (by decide)) rfl (pa_cons (pv 0) (pa_cons (pv 1) (pa_cons (pv 2) pa_nil)))))) pss_nil) (pss_cons (ps_if (pt_cmpR op_lt (pv 1) pe_i (nomark _)) (pss_one (ps_ret (pe_cd D_asking_answer (hr.mono (by decide)) rfl (pa_cons (pv 0) (pa_cons (pv 1) (pa_cons (pv 2) pa_nil)))))) pss_nil) (pss_one (ps_ret (pe_cd D_looking_answer (hr.mono (by decide)) rfl (pa_cons (pv 0) (pa_cons (pv 1) (pa_cons (pv 2) pa_nil))))))))), ?_⟩)
  obtain ⟨n, L, m, p, b, g, rfl, h1, h2, S, W, hb, hs, q⟩ := h
  refine seq_ret (a_test (v_lt (v_var rfl) v_c)) (fun e => ?_) (fun e => ?_)
  · have e0 : p < 5 := by
      have := of_decide_eq_true e
      omega
    exact c_3 (v_var rfl) (v_var rfl) (v_var rfl) ⟨n, L, m, p, b, g, rfl, by omega, by omega, S, W, hb, hs, q⟩
  have e0 : 5 ≤ p := by
    have := of_decide_eq_false e
    omega
  refine seq_ret (a_test (v_lt (v_var rfl) v_c)) (fun e => ?_) (fun e => ?_)
  · have e1 : p < 10 := by
      have := of_decide_eq_true e
      omega
    exact c_3 (v_var rfl) (v_var rfl) (v_var rfl) ⟨n, L, m, p, b, g, rfl, by omega, by omega, S, W, hb, hs, q⟩
  have e1 : 10 ≤ p := by
    have := of_decide_eq_false e
    omega
  refine seq_ret (a_test (v_lt (v_var rfl) v_c)) (fun e => ?_) (fun e => ?_)
  · have e2 : p < 15 := by
      have := of_decide_eq_true e
      omega
    exact c_3 (v_var rfl) (v_var rfl) (v_var rfl) ⟨n, L, m, p, b, g, rfl, by omega, by omega, S, W, hb, hs, q⟩
  have e2 : 15 ≤ p := by
    have := of_decide_eq_false e
    omega
  exact ret1 (c_3 (v_var rfl) (v_var rfl) (v_var rfl) ⟨n, L, m, p, b, g, rfl, by omega, by omega, S, W, hb, hs, q⟩)
end
end Sw
end
section
set_option maxHeartbeats 1000000
namespace Sw
open PySem PySem.Spec PyProof.Rows L2
section
variable {K : PySem.W.Frag} {c : Cad} {n : Nat} {L : Nat → Addr} {H : Hp} {m : Sv.M}
/-- one place more behind the site's own: the list told -/
theorem SiteAt.grow (S : SiteAt K c 53 L H m) {d : Addr} {o : HO} (nd : H d = none) : SiteAt K c 54 (Sv.fset L 53 d) (upd H d o) m := by
  have fne : ∀ i, i ≠ 53 → Sv.fset L 53 d i = L i := fun i hi => Sv.fset_ne hi
  have feq : Sv.fset L 53 d 53 = d := Sv.fset_same
  have pL : ∀ i, i < 53 → d ≠ L i := fun i hi z => S.new nd ⟨i, hi, z⟩
  have ho : Same (off 53 L H) (off 54 (Sv.fset L 53 d) (upd H d o)) := fun b x hb => by
    obtain ⟨h1, h2⟩ := off_some.mp hb
    have hbd : b ≠ d := ne_of_none h1 nd
    refine off_some.mpr ⟨?_, fun ⟨i, hi, z⟩ => ?_⟩
    · rw [upd_ne hbd]
      exact h1
    · by_cases q : i = 53
      · rw [q, feq] at z
        exact hbd z
      · rw [fne i q] at z
        exact h2 ⟨i, by omega, z⟩
  refine ⟨by decide, fun i j hi hj z => ?_, fun i hi => ?_, fun i h1 h2 => ?_⟩
  · by_cases a : i = 53
    · by_cases b : j = 53
      · omega
      · rw [a, feq, fne j b] at z
        exact absurd z (pL j (by omega))
    · by_cases b : j = 53
      · rw [b, feq, fne i a] at z
        exact absurd z.symm (pL i (by omega))
      · rw [fne i a, fne j b] at z
        exact S.inj i j (by omega) (by omega) z
  · rw [fne i (by omega), upd_ne (Ne.symm (pL i hi))]
    have C := (S.cell i hi).mono ho
    have l1 := fne 1 (by omega)
    have l2 := fne 2 (by omega)
    have l3 := fne 3 (by omega)
    have l4 := fne 4 (by omega)
    have l5 := fne 5 (by omega)
    have l6 := fne 6 (by omega)
    have l7 := fne 7 (by omega)
    have l8 := fne 8 (by omega)
    have l9 := fne 9 (by omega)
    have l10 := fne 10 (by omega)
    have l11 := fne 11 (by omega)
    exact match i, C with
    | 0, C => by
      unfold Cell at C ⊢
      rw [l1, l2, l3, l4]
      exact C
    | 1, C => by
      unfold Cell at C ⊢
      rw [l5, l6, l7]
      exact C
    | 2, C => by
      unfold Cell at C ⊢
      rw [l8, l9]
      exact C
    | 3, C => by
      unfold Cell at C ⊢
      rw [l10, l11]
      exact C
    | 4, C => C
    | 5, C => C
    | 6, C => by
      unfold Cell at C ⊢
      have e : (tab 41 fun i => V.ref (Sv.fset L 53 d (i + 12))) = tab 41 fun i => V.ref (L (i + 12)) := List.map_congr_left fun k hk => by
        have := List.mem_range.mp hk
        rw [fne (k + 12) (by omega)]
      rw [e]
      exact C
    | 7, C => C
    | 8, C => C
    | 9, C => C
    | 10, C => C
    | 11, C => C
    | k' + 12, C => C
  · have e : i = 53 := by omega
    subst e
    rw [feq]
    exact ⟨_, upd_same⟩
/-- a place behind the first 53 may change -/
theorem SiteAt.extra (S : SiteAt K c n L H m) {j : Nat} (h1 : 53 ≤ j) (h2 : j < n) {o : HO} : SiteAt K c n L (upd H (L j) o) m := by
  refine ⟨S.many, S.inj, fun i hi => ?_, fun i a b => ?_⟩
  · have := S.many
    rw [off_upd ⟨j, h2, rfl⟩, upd_ne fun q => absurd (S.inj i j (by omega) h2 q) (by omega)]
    exact S.cell i hi
  · by_cases e : i = j
    · subst e
      exact ⟨_, upd_same⟩
    · rw [upd_ne fun q => e (S.inj i j b h2 q)]
      exact S.ext i a b
end
section
variable {P : Program} {w : World} {K : PySem.W.Frag} {mg : Str → Option Value} {base : Heap} {c : Cad} {f : Addr} {fd : FuncData}
theorem few7 {n : Nat} (h : n ≤ 10000000) : n < sizeLine := Nat.lt_of_le_of_lt h (by decide)
theorem seq_while {tc : TT} {tb us : TS} {D : Ends} {σ : L2.St} {H : Hp} (h : tWhile tc tb { nx := us D, rt := D.rt, bk := D.bk, ct := D.ct } σ H) : tSeq (tWhile tc tb) us D σ H := h
theorem sl_E {te tl th : TE} {σ : L2.St} {H : Hp} {Q : VK} {a : Addr} {xs : List V} {i j : Int} (ha : Va te σ H (.ref a)) (h1 : Va tl σ H (.int i)) (h2 : Va th σ H (.int j)) (hs : SqL K H a xs)
    (q : ∀ p, H p = none → Q (.ref p) (upd H p (.lst (cutV xs (some i) (some j))))) : tSl (rSlL K) te (tPart tl) (tPart th) σ H Q := ha _ (h1 _ ⟨i, rfl, h2 _ ⟨j, rfl, a, xs, rfl, hs, q⟩⟩)
theorem cut_is (l : List Int) (a k : Nat) (h : a + k ≤ l.length) : cutV (l.map V.int) (some ((a : Nat) : Int)) (some ((a + k : Nat) : Int)) = ((l.drop a).take k).map V.int := by
  unfold cutV
  rw [HT.sIx_nat, HT.sIx_nat, List.length_map, Nat.min_eq_left (show a ≤ l.length by omega), Nat.min_eq_left h, Nat.add_sub_cancel_left, List.map_take, List.map_drop]
theorem sizes_at {p k : Nat} (h : Sv.sizes[p]? = some k) : (([2, 2, 1, 3, 3, 1, 2, 2, 1, 0, 0, 1, 3, 0, 0, 3, 2, 1, 0, 0] : List Int).map V.int)[p]? = some (nV k) := by
  have e : (([2, 2, 1, 3, 3, 1, 2, 2, 1, 0, 0, 1, 3, 0, 0, 3, 2, 1, 0, 0] : List Int).map V.int) = Sv.sizes.map nV := rfl
  rw [e, List.getElem?_map, h]
  rfl
def spAns (K : PySem.W.Frag) : Sp := fun vs H Q _ => ∃ (a : Addr) (ns : List Int), vs = [.ref a] ∧ SqL K H a (ns.map V.int) ∧ PyVbxlaf.answers_asked ns = true ∧ ∀ (H' : Hp) (p : Addr), H' p = some (.lst ((PyVbxlaf.answers ns).map V.int)) → Q (.ref p) H'
/-- ahead of the call that begins at the place k -/
structure Turn (K : PySem.W.Frag) (c : Cad) (a : Addr) (ns : List Int) (H : Hp) (k : Nat) (σ : L2.St) (H' : Hp) : Prop where
  ex : ∃ L m out y1 y2, σ = [some (.ref a), some (.ref (L 0)), some (.ref (L 53)), some (nV k), y1, y2] ∧ SiteAt K c 54 L H' m ∧ H' (L 53) = some (.lst (out.map V.int)) ∧ Same H (off 54 L H') ∧ Sv.Upto ns k m out
theorem ok_answers (F : Fun K "answers" "answers" s_answers f fd) (T : Txt K mg c) (D_Site_init : KDef P w K mg base "Site" c.Site ["self"] 3 (spSiteInit K c)) (D_one_answer : Def P w K mg base "one_answer" ["site", "operation", "given"] 8 (spOp K c 0 20)) :
    FnOk P w K mg base CX0 9 f fd ["calls"] (spAns K) := by
  refine F.ok sc_answers (fun vs H Q E h => ?_) (fun cdv A outer s H vs Q E hr h => ⟨_, (pss_cons (ps_set (i := 1) sc_answers.nd rfl (.inl rfl) (pe_kd0 D_Site_init (hr.mono (by decide)) rfl)) (pss_cons (ps_set (i := 2) sc_answers.nd rfl (.inl rfl) (pe_lst pa_nil)) (pss_cons (ps_set (i := 3) sc_answers.nd rfl (.inl rfl) pe_i) (pss_cons (ps_while PassesOwn.never (pt_cmpR op_lt (pv 3) (pe_callB call_len_seq (by rfl) T.len PySem.boot_len (pa_cons (pv 0) pa_nil)) (nomark _)) (pss_cons (ps_set (i := 4) sc_answers.nd rfl (.inl rfl) (pe_ix ix_tup (pe_gr rfl T.gSIZES) (pe_ix ix_list (pv 0) (pv 3) (fun _ _ => rfl)) (fun _ _ => rfl))) (pss_cons (ps_set (i := 5) sc_answers.nd rfl (.inl rfl) (pe_cd D_one_answer (hr.mono (by decide)) rfl (pa_cons (pv 1) (pa_cons (pe_ix ix_list (pv 0) (pv 3) (fun _ _ => rfl)) (pa_cons (pe_slice sl_list (pv 0) (po_some (pe_op op_add (pv 3) pe_i)) (po_some (pe_op op_add (pe_op op_add (pv 3) pe_i) (pv 4)))) pa_nil))))) (pss_cons (ps_expr (pe_bm PySem.F.plainAttrs_list PySem.F.slot_list_append PySem.F.type_list_append mt_append (pv 2) (pa_cons (pe_callB call_len_seq (by rfl) T.len PySem.boot_len (pa_cons (pv 5) pa_nil)) pa_nil))) (pss_cons (ps_expr (pe_bm PySem.F.plainAttrs_list PySem.F.slot_list_extend PySem.F.type_list_extend mt_extend (pv 2) (pa_cons (pv 5) pa_nil))) (pss_one (ps_aug (i := 3) sc_answers.nd rfl (.inl rfl) (pe_op op_add pe_i (pv 4)) ip_add))))))) (pss_one (ps_ret (pv 2))))))), ?_⟩)
  · obtain ⟨a, ns, rfl, _⟩ := h
    rfl
  obtain ⟨a, ns, rfl, hS, hask, q⟩ := h
  refine seq_set (mk_0 fun x dx nx nd ne => ⟨x, dx, rfl, upd_same, fun H1 L e0 S b1 kl => ⟨rfl, ?_⟩⟩)
  have s1 : Same H H1 := Same.made nx nd fun b o h ne => b1 b o ne h
  have s0 : Same H (upd (upd H dx (.own x)) x (.ins c.Site dx [])) := fun b o e => by
    rw [upd_ne (ne_of_none e nx), upd_ne (ne_of_none e nd)]
    exact e
  refine seq_set (n_nil fun d nd2 => ?_)
  have S2 := S.grow (o := .lst []) nd2
  have f0 : Sv.fset L 53 d 0 = x := (Sv.fset_ne (by decide)).trans e0
  have f53 : Sv.fset L 53 d 53 = d := Sv.fset_same
  have s2 : Same H (off 54 (Sv.fset L 53 d) (upd H1 d (.lst []))) := fun b o hb => by
    refine off_some.mpr ⟨same_upd nd2 _ _ (s1 _ _ hb), fun ⟨i, hi, z⟩ => ?_⟩
    by_cases i53 : i = 53
    · rw [i53, f53] at z
      have h := s1 _ _ hb
      rw [z, nd2] at h
      cases h
    · rw [Sv.fset_ne i53] at z
      by_cases i0 : i = 0
      · rw [i0, e0] at z
        rw [z, nx] at hb
        cases hb
      · have h := s0 _ _ hb
        rw [z, kl i (by omega) (by omega)] at h
        cases h
  refine seq_set ?_
  refine seq_while ⟨fun mu σ H' => ∃ k, mu = ns.length - k ∧ Turn K c a ns H k σ H', ⟨_, 0, rfl, ⟨Sv.fset L 53 d, Sv.M.start, [], none, none, ?_, S2, ?_, s2, Sv.upto_start hask⟩⟩, ?_⟩
  · rw [f0, f53]
    rfl
  · rw [f53]
    exact upd_same
  clear S2 s2 f0 f53 s0 s1 kl S b1
  rintro mu σ H' ⟨k, rfl, ⟨L', m, out, y1, y2, rfl, S', ht, s', U⟩⟩
  have hS' := (s'.trans off_sub).seq hS
  refine a_test (v_lt (v_var rfl) (v_len (v_var rfl) hS')) _ ?_
  by_cases e : k < ns.length
  · refine ifT (decide_eq_true (by rw [List.length_map]; omega)) ⟨fun σ2 H2 => ∃ m', m' < ns.length - k ∧ ∃ k2, m' = ns.length - k2 ∧ Turn K c a ns H k2 σ2 H2, fun _ _ h => h, ?_⟩
    obtain ⟨p, sz, g, hp, p0, p1, hs, hg, hl, U2⟩ := Sv.upto_turn U e
    obtain ⟨pn, rfl⟩ : ∃ pn : Nat, p = (pn : Int) := ⟨p.toNat, by omega⟩
    rw [Int.toNat_natCast] at hs U2
    have hpv : (ns.map V.int)[k]? = some (nV pn) := by
      rw [List.getElem?_map, hp]
      rfl
    have le2 := U2.le
    have lo2 := Sv.upto_len U2 hask
    refine seq_set (v_ixT (k := pn) v_c (v_ixN (v_var rfl) (v_var rfl) hS' hpv) (.inr T.tSIZES) (sizes_at hs) _ ?_)
    refine seq_set (e_3 (v_var rfl) (v_ixN (v_var rfl) (v_var rfl) hS' hpv) (sl_E (i := ((k + 1 : Nat) : Int)) (j := ((k + 1 + sz : Nat) : Int)) (v_var rfl) ((v_add (i := (k : Int)) (j := 1) (v_var rfl) v_c).to (congrArg V.int (by omega))) ((v_add (i := (k : Int) + 1) (j := (sz : Int)) (v_add (i := (k : Int)) (j := 1) (v_var rfl) v_c) (v_var rfl)).to (congrArg V.int (by omega))) hS' fun b nb => ?_))
    rw [cut_is ns (k + 1) sz (by omega), ← hg]
    have s3 := same_upd (o := .lst (g.map V.int)) nb
    refine ⟨54, L', m, pn, b, g, rfl, by omega, by omega, S'.same s3, U.wf, upd_same, by rw [hl]; exact hs, fun L2 H2 r S2 F2 nf h2 => ?_⟩
    have F3 := (Fr.ofSame S' s3).trans F2
    have l0 := F3.zero
    obtain ⟨l53, k53⟩ := F3.ext 53 (by decide) (by decide)
    rw [ht, ← l53] at k53
    rw [← l0, ← l53]
    have s4 : Same H (off 54 L2 H2) := s'.trans F3.same
    generalize Sv.opM m (Sv.callN pn g) = res at U2 S2 h2 lo2
    rw [List.length_append, List.length_cons] at lo2
    refine seq_drop ⟨_, rfl, .inl ⟨rfl, _, SqL.of k53⟩, v_len (v_var rfl) (SqL.of h2) _ ⟨L2 53, _, _, rfl, rfl, k53, few7 (by rw [List.length_map]; omega), ?_⟩⟩
    have nr : r ≠ L2 53 := fun z => nf ⟨53, by decide, z⟩
    refine seq_drop ⟨_, rfl, .inl ⟨rfl, _, SqL.of upd_same⟩, v_var rfl _ ⟨L2 53, r, _, _, rfl, rfl, upd_same, (upd_ne nr).trans h2, Nat.le_of_lt (few7 (by rw [List.length_append, List.length_map, List.length_map]; show _ + 1 + _ ≤ _; omega)), ?_⟩⟩
    refine s_aug rfl (v_add v_c (v_var rfl)) ?_
    refine ⟨ns.length - (k + 1 + sz), by omega, k + 1 + sz, rfl, ⟨L2, res.1, _, some (nV sz), some (.ref r), ?_, (S2.extra (by decide) (by decide)).extra (by decide) (by decide), ?_, ?_, U2⟩⟩
    · have ev : V.int ((k : Int) + (1 + (sz : Int))) = nV (k + 1 + sz) := congrArg V.int (by omega)
      rw [← ev]
      rfl
    · rw [upd_same, List.length_map]
      congr 2
      rw [List.map_append, List.map_cons, List.append_assoc]
      rfl
    · rw [off_upd ⟨53, by decide, rfl⟩, off_upd ⟨53, by decide, rfl⟩]
      exact s4
  · refine ifF (decide_eq_false (by rw [List.length_map]; omega)) ?_
    have := Sv.upto_end U e
    rw [this] at ht
    exact s_ret (v_var rfl) (q _ _ ht)
end
end Sw
end
section
set_option maxHeartbeats 4000000
namespace Sw
open PySem PySem.Spec PyProof.Rows L2
/-! ### what the top has left of a def, a method, a class -/
def GFn (K : PySem.W.Frag) (x : Str) (st : Stmt) : Prop := ∃ f fd, PySem.W.nsIn K mainGlobals x = some (some (.ref f)) ∧ Fun K x x st f fd
def GMeth (K : PySem.W.Frag) (C : Addr) (m qual : Str) (st : Stmt) : Prop := ∃ f fd, Meth K C m f ∧ Fun K m qual st f fd
structure GCls (K : PySem.W.Frag) (x : Str) (C : Addr) : Prop where
  at_ : PySem.W.nsIn K mainGlobals x = some (some (.ref C))
  cls : Cls K C
  makes : PySem.W.makesIn K C = true
  kp : PySem.W.keepIn K (.ref C) = true
section
variable {P : Program} {w : World} {K : PySem.W.Frag} {h : Heap} {mg : Str → Option Value} {base : Heap} {x m qual : Str} {st : Stmt} {f C : Addr} {fd : FuncData} {ps : List Str} {k : Nat} {sp : Sp}
theorem gfn {oc : Value} {od an : Option Addr} {osl : Array (Option Value)} {kV doc pm cdv ct : Value} (a : PySem.W.nsIn K mainGlobals x = some (some (.ref f)))
    (l : K.lookup f = some ⟨oc, od, .func (PySem.W.fnOf x x (defArgs st) (defBody st) (defScope st) .none kV doc pm an cdv ct), osl⟩) (e : PySem.W.codeIn K cdv x = true) (kp : PySem.W.keepIn K (.ref f) = true) : GFn K x st := ⟨f, _, a, fun_mk l e kp⟩
theorem gmeth {oc : Value} {od an : Option Addr} {osl : Array (Option Value)} {kV doc pm cdv ct : Value} (a : PySem.W.findIn K (.ref C) m = some (some (.ref f))) (i : PySem.W.isFn K (.ref f) = true)
    (l : K.lookup f = some ⟨oc, od, .func (PySem.W.fnOf m qual (defArgs st) (defBody st) (defScope st) .none kV doc pm an cdv ct), osl⟩) (e : PySem.W.codeIn K cdv qual = true) (kp : PySem.W.keepIn K (.ref f) = true) : GMeth K C m qual st := ⟨f, _, ⟨a, i, kp⟩, fun_mk l e kp⟩
theorem gtup {a : Addr} {xs : List V} {od : Option Addr} {its : Array Value} {n : Nat} {sl : Array (Option Value)} (l : K.lookup a = some ⟨.type "tuple", od, .seq its n, sl⟩) (z : its.size ≤ sizeLine) (v : Vals xs its.toList) : KT K a xs := ⟨_, its, n, l, rfl, rfl, z, v⟩
theorem mkDef (X : K.In h) (G : h.Ns mainGlobals mg) (g : GFn K x st) (b : ∀ f fd, Fun K x x st f fd → Binds K fd ps []) (ok : ∀ f fd, Fun K x x st f fd → FnOk P w K mg base CX0 k f fd ps sp) : Def P w K mg base x ps k sp := by
  obtain ⟨f, fd, a, F⟩ := g
  exact ⟨⟨f, fd, PySem.W.mg_of X G a, F.kp, b f fd F, ok f fd F⟩⟩
theorem mkMDef (g : GMeth K C m qual st) (b : ∀ f fd, Fun K m qual st f fd → Binds K fd ps []) (ok : ∀ f fd, Fun K m qual st f fd → FnOk P w K mg base CX0 k f fd ps sp) : MDef P w K mg base C m ps k sp := by
  obtain ⟨f, fd, M, F⟩ := g
  exact ⟨⟨f, fd, M, b f fd F, ok f fd F⟩⟩
theorem mkKDef (X : K.In h) (G : h.Ns mainGlobals mg) (c : GCls K x C) (g : GMeth K C "__init__" qual st) (b : ∀ f fd, Fun K "__init__" qual st f fd → Binds K fd ps []) (ok : ∀ f fd, Fun K "__init__" qual st f fd → FnOk P w K mg base CX0 k f fd ps sp) :
    KDef P w K mg base x C ps k sp := by
  obtain ⟨f, fd, M, F⟩ := g
  exact ⟨⟨f, fd, ⟨c.makes, M.at_, M.fn, c.kp⟩, PySem.W.mg_of X G c.at_, b f fd F, ok f fd F⟩⟩
end

theorem all_mk {P : Program} {w : World} {K : PySem.W.Frag} {h : Heap} {mg : Str → Option Value} {fa : Addr} (X : K.In h) (G : h.Ns mainGlobals mg) (hfa : mg "answers" = some (.ref fa)) {aSite aHeap aNames aMarks aN aZ : Addr} {tOBJECT tFOREIGN tSLOT_COUNT tMOST_FIELDS tMOST_OBJECTS tMOST_FOREIGN tMOST_VALUES tMOST_SURVEYS tOUT_OF_RANGE tNOT_IN_SLOT tNO_FIELD tNOT_THERE tNO_SURVEY tTOO_MANY : Tok}
    (q_Site : GCls K "Site" aSite)
    (q_Heap : GCls K "Heap" aHeap)
    (q_Names : GCls K "Names" aNames)
    (q_Marks : GCls K "Marks" aMarks)
    (n_heap : NoAttr K aSite "heap")
    (n_names : NoAttr K aSite "names")
    (n_marks : NoAttr K aSite "marks")
    (n_surveys : NoAttr K aSite "surveys")
    (n_slots : NoAttr K aHeap "slots")
    (n_made : NoAttr K aHeap "made")
    (n_rows : NoAttr K aHeap "rows")
    (n_living : NoAttr K aHeap "living")
    (n_uses : NoAttr K aNames "uses")
    (n_es : NoAttr K aNames "entry_stamps")
    (n_im : NoAttr K aNames "import_stamps")
    (n_led : NoAttr K aMarks "led")
    (n_sc : NoAttr K aMarks "slots_changed")
    (n_changed : NoAttr K aMarks "changed")
    (n_fresh : NoAttr K aMarks "fresh")
    (i_OBJECT : PySem.W.nsIn K mainGlobals "OBJECT" = some (some (.int 1 tOBJECT)))
    (i_FOREIGN : PySem.W.nsIn K mainGlobals "FOREIGN" = some (some (.int 2 tFOREIGN)))
    (i_SLOT_COUNT : PySem.W.nsIn K mainGlobals "SLOT_COUNT" = some (some (.int 6 tSLOT_COUNT)))
    (i_MOST_FIELDS : PySem.W.nsIn K mainGlobals "MOST_FIELDS" = some (some (.int 4 tMOST_FIELDS)))
    (i_MOST_OBJECTS : PySem.W.nsIn K mainGlobals "MOST_OBJECTS" = some (some (.int 40 tMOST_OBJECTS)))
    (i_MOST_FOREIGN : PySem.W.nsIn K mainGlobals "MOST_FOREIGN" = some (some (.int 20 tMOST_FOREIGN)))
    (i_MOST_VALUES : PySem.W.nsIn K mainGlobals "MOST_VALUES" = some (some (.int 60 tMOST_VALUES)))
    (i_MOST_SURVEYS : PySem.W.nsIn K mainGlobals "MOST_SURVEYS" = some (some (.int 30 tMOST_SURVEYS)))
    (i_OUT_OF_RANGE : PySem.W.nsIn K mainGlobals "OUT_OF_RANGE" = some (some (.int (-1) tOUT_OF_RANGE)))
    (i_NOT_IN_SLOT : PySem.W.nsIn K mainGlobals "NOT_IN_SLOT" = some (some (.int (-3) tNOT_IN_SLOT)))
    (i_NO_FIELD : PySem.W.nsIn K mainGlobals "NO_FIELD" = some (some (.int (-5) tNO_FIELD)))
    (i_NOT_THERE : PySem.W.nsIn K mainGlobals "NOT_THERE" = some (some (.int (-6) tNOT_THERE)))
    (i_NO_SURVEY : PySem.W.nsIn K mainGlobals "NO_SURVEY" = some (some (.int (-7) tNO_SURVEY)))
    (i_TOO_MANY : PySem.W.nsIn K mainGlobals "TOO_MANY" = some (some (.int (-8) tTOO_MANY)))
    (i_NOTHING : PySem.W.nsIn K mainGlobals "NOTHING" = some (some (.ref aN)))
    (x_NOTHING : KT K aN [.int 0, .int 0])
    (i_SIZES : PySem.W.nsIn K mainGlobals "SIZES" = some (some (.ref aZ)))
    (x_SIZES : KT K aZ [.int 2, .int 2, .int 1, .int 3, .int 3, .int 1, .int 2, .int 2, .int 1, .int 0, .int 0, .int 1, .int 3, .int 0, .int 0, .int 3, .int 2, .int 1, .int 0, .int 0])
    (z_len : PySem.W.nsIn K mainGlobals "len" = some none)
    (z_range : PySem.W.nsIn K mainGlobals "range" = some none)
    (z_enumerate : PySem.W.nsIn K mainGlobals "enumerate" = some none)
    (g_Heap_init : GMeth K aHeap "__init__" "Heap.__init__" s_Heap_init)
    (g_Names_init : GMeth K aNames "__init__" "Names.__init__" s_Names_init)
    (g_Marks_init : GMeth K aMarks "__init__" "Marks.__init__" s_Marks_init)
    (g_Site_init : GMeth K aSite "__init__" "Site.__init__" s_Site_init)
    (g_is_slot : GFn K "is_slot" s_is_slot)
    (g_is_field_count : GFn K "is_field_count" s_is_field_count)
    (g_Heap_make : GMeth K aHeap "make" "Heap.make" s_Heap_make)
    (g_Heap_set_slot : GMeth K aHeap "set_slot" "Heap.set_slot" s_Heap_set_slot)
    (g_Marks_note_slot : GMeth K aMarks "note_slot" "Marks.note_slot" s_Marks_note_slot)
    (g_Site_put : GMeth K aSite "put" "Site.put" s_Site_put)
    (g_create : GFn K "create" s_create)
    (g_copy_slot : GFn K "copy_slot" s_copy_slot)
    (g_clear_slot : GFn K "clear_slot" s_clear_slot)
    (g_is_field : GFn K "is_field" s_is_field)
    (g_field_fault : GFn K "field_fault" s_field_fault)
    (g_read_field : GFn K "read_field" s_read_field)
    (g_Heap_set_field : GMeth K aHeap "set_field" "Heap.set_field" s_Heap_set_field)
    (g_Marks_note_field : GMeth K aMarks "note_field" "Marks.note_field" s_Marks_note_field)
    (g_Site_change_field : GMeth K aSite "change_field" "Site.change_field" s_Site_change_field)
    (g_write_field : GFn K "write_field" s_write_field)
    (g_program_answer : GFn K "program_answer" s_program_answer)
    (g_Marks_note_entry : GMeth K aMarks "note_entry" "Marks.note_entry" s_Marks_note_entry)
    (g_Names_use_entry : GMeth K aNames "use_entry" "Names.use_entry" s_Names_use_entry)
    (g_Site_use_object : GMeth K aSite "use_object" "Site.use_object" s_Site_use_object)
    (g_Names_use_import : GMeth K aNames "use_import" "Names.use_import" s_Names_use_import)
    (g_export : GFn K "export" s_export)
    (g_Site_stamp_of : GMeth K aSite "stamp_of" "Site.stamp_of" s_Site_stamp_of)
    (g_arrive : GFn K "arrive" s_arrive)
    (g_is_foreign : GFn K "is_foreign" s_is_foreign)
    (g_import_foreign : GFn K "import_foreign" s_import_foreign)
    (g_Names_drop_entry : GMeth K aNames "drop_entry" "Names.drop_entry" s_Names_drop_entry)
    (g_retire : GFn K "retire" s_retire)
    (g_entries_now : GFn K "entries_now" s_entries_now)
    (g_add_new : GFn K "add_new" s_add_new)
    (g_fields_of : GFn K "fields_of" s_fields_of)
    (g_reached : GFn K "reached" s_reached)
    (g_all_led : GFn K "all_led" s_all_led)
    (g_objects_now : GFn K "objects_now" s_objects_now)
    (g_imports_now : GFn K "imports_now" s_imports_now)
    (g_Heap_drop : GMeth K aHeap "drop" "Heap.drop" s_Heap_drop)
    (g_Names_drop_import : GMeth K aNames "drop_import" "Names.drop_import" s_Names_drop_import)
    (g_collect : GFn K "collect" s_collect)
    (g_traffic_answer : GFn K "traffic_answer" s_traffic_answer)
    (g_Site_keep : GMeth K aSite "keep" "Site.keep" s_Site_keep)
    (g_line_sources : GFn K "line_sources" s_line_sources)
    (g_names_now : GFn K "names_now" s_names_now)
    (g_led_by : GFn K "led_by" s_led_by)
    (g_sources_now : GFn K "sources_now" s_sources_now)
    (g_values_table : GFn K "values_table" s_values_table)
    (g_lines_now : GFn K "lines_now" s_lines_now)
    (g_objects_led : GFn K "objects_led" s_objects_led)
    (g_objects_table : GFn K "objects_table" s_objects_table)
    (g_any_changed : GFn K "any_changed" s_any_changed)
    (g_is_affected : GFn K "is_affected" s_is_affected)
    (g_affected_now : GFn K "affected_now" s_affected_now)
    (g_work_now : GFn K "work_now" s_work_now)
    (g_make_survey : GFn K "make_survey" s_make_survey)
    (g_has_survey : GFn K "has_survey" s_has_survey)
    (g_show_survey : GFn K "show_survey" s_show_survey)
    (g_find_line : GFn K "find_line" s_find_line)
    (g_has_stamp_of : GFn K "has_stamp_of" s_has_stamp_of)
    (g_first_moved : GFn K "first_moved" s_first_moved)
    (g_is_kind : GFn K "is_kind" s_is_kind)
    (g_tell_current : GFn K "tell_current" s_tell_current)
    (g_show_lines : GFn K "show_lines" s_show_lines)
    (g_show_affected : GFn K "show_affected" s_show_affected)
    (g_asking_answer : GFn K "asking_answer" s_asking_answer)
    (g_add_ways : GFn K "add_ways" s_add_ways)
    (g_first_values : GFn K "first_values" s_first_values)
    (g_first_path : GFn K "first_path" s_first_path)
    (g_is_source : GFn K "is_source" s_is_source)
    (g_Site_has_object : GMeth K aSite "has_object" "Site.has_object" s_Site_has_object)
    (g_is_target : GFn K "is_target" s_is_target)
    (g_show_path : GFn K "show_path" s_show_path)
    (g_show_stamp : GFn K "show_stamp" s_show_stamp)
    (g_pairs_flat : GFn K "pairs_flat" s_pairs_flat)
    (g_show_object : GFn K "show_object" s_show_object)
    (g_show_slots : GFn K "show_slots" s_show_slots)
    (g_show_status : GFn K "show_status" s_show_status)
    (g_looking_answer : GFn K "looking_answer" s_looking_answer)
    (g_one_answer : GFn K "one_answer" s_one_answer)
    (g_answers : GFn K "answers" s_answers)
    : ∃ fd : FuncData, (∀ (s : Shared) (us : List Value), us.length = (["calls"] : List Str).length → BindsTo s fd ⟨us, []⟩ ((["calls"] : List Str).zip us)) ∧ ∀ base : Heap, K.In base → base.Ns mainGlobals mg → FnOk P w K mg base CX0 9 fa fd ["calls"] (spAns K) := by
  have T : Txt K mg ⟨aSite, aHeap, aNames, aMarks, aN, aZ⟩ := ⟨q_Site.cls, q_Heap.cls, q_Names.cls, q_Marks.cls, n_heap, n_names, n_marks, n_surveys, n_slots, n_made, n_rows, n_living, n_uses, n_es, n_im, n_led, n_sc, n_changed, n_fresh, ⟨_, PySem.W.mg_of X G i_OBJECT⟩, ⟨_, PySem.W.mg_of X G i_FOREIGN⟩, ⟨_, PySem.W.mg_of X G i_SLOT_COUNT⟩, ⟨_, PySem.W.mg_of X G i_MOST_FIELDS⟩, ⟨_, PySem.W.mg_of X G i_MOST_OBJECTS⟩, ⟨_, PySem.W.mg_of X G i_MOST_FOREIGN⟩, ⟨_, PySem.W.mg_of X G i_MOST_VALUES⟩, ⟨_, PySem.W.mg_of X G i_MOST_SURVEYS⟩, ⟨_, PySem.W.mg_of X G i_OUT_OF_RANGE⟩, ⟨_, PySem.W.mg_of X G i_NOT_IN_SLOT⟩, ⟨_, PySem.W.mg_of X G i_NO_FIELD⟩, ⟨_, PySem.W.mg_of X G i_NOT_THERE⟩, ⟨_, PySem.W.mg_of X G i_NO_SURVEY⟩, ⟨_, PySem.W.mg_of X G i_TOO_MANY⟩, PySem.W.mg_of X G i_NOTHING, x_NOTHING, PySem.W.mg_of X G i_SIZES, x_SIZES, PySem.W.mg_none_of X G z_len, PySem.W.mg_none_of X G z_range, PySem.W.mg_none_of X G z_enumerate⟩
  obtain ⟨f0, fd0, e0, F0⟩ := g_answers
  have e1 := hfa.symm.trans (PySem.W.mg_of X G e0)
  cases e1
  refine ⟨fd0, ?_, fun base _ _ => ?_⟩
  · obtain ⟨oc, od, kV, doc, pm, an, cdv, ct, osl, rfl, lk, hcd⟩ := F0.ex
    exact fun s us hu => match us, hu with | [_], _ => .of_eq rfl
  have D_Heap_init := mkKDef (P := P) (w := w) (base := base) X G q_Heap g_Heap_init (fun f fd F => F.binds (ps := ["self"]) fun _ _ _ _ _ _ us hl => match us, hl with | [_], _ => rfl) (fun f fd F => ok_heap_init F T)
  have D_Names_init := mkKDef (P := P) (w := w) (base := base) X G q_Names g_Names_init (fun f fd F => F.binds (ps := ["self"]) fun _ _ _ _ _ _ us hl => match us, hl with | [_], _ => rfl) (fun f fd F => ok_names_init F T)
  have D_Marks_init := mkKDef (P := P) (w := w) (base := base) X G q_Marks g_Marks_init (fun f fd F => F.binds (ps := ["self", "led"]) fun _ _ _ _ _ _ us hl => match us, hl with | [_, _], _ => rfl) (fun f fd F => ok_marks_init F T)
  have D_Site_init := mkKDef (P := P) (w := w) (base := base) X G q_Site g_Site_init (fun f fd F => F.binds (ps := ["self"]) fun _ _ _ _ _ _ us hl => match us, hl with | [_], _ => rfl) (fun f fd F => ok_site_init F T D_Heap_init D_Names_init D_Marks_init)
  have D_is_slot := mkDef (P := P) (w := w) (base := base) X G g_is_slot (fun f fd F => F.binds (ps := ["number"]) fun _ _ _ _ _ _ us hl => match us, hl with | [_], _ => rfl) (fun f fd F => ok_is_slot F T)
  have D_is_field_count := mkDef (P := P) (w := w) (base := base) X G g_is_field_count (fun f fd F => F.binds (ps := ["number"]) fun _ _ _ _ _ _ us hl => match us, hl with | [_], _ => rfl) (fun f fd F => ok_is_field_count F T)
  have D_Heap_make := mkMDef (P := P) (w := w) (mg := mg) (base := base) g_Heap_make (fun f fd F => F.binds (ps := ["self", "field_count"]) fun _ _ _ _ _ _ us hl => match us, hl with | [_, _], _ => rfl) (fun f fd F => ok_make F T)
  have D_Heap_set_slot := mkMDef (P := P) (w := w) (mg := mg) (base := base) g_Heap_set_slot (fun f fd F => F.binds (ps := ["self", "slot", "value"]) fun _ _ _ _ _ _ us hl => match us, hl with | [_, _, _], _ => rfl) (fun f fd F => ok_set_slot F T)
  have D_Marks_note_slot := mkMDef (P := P) (w := w) (mg := mg) (base := base) g_Marks_note_slot (fun f fd F => F.binds (ps := ["self"]) fun _ _ _ _ _ _ us hl => match us, hl with | [_], _ => rfl) (fun f fd F => ok_note_slot F T)
  have D_Site_put := mkMDef (P := P) (w := w) (mg := mg) (base := base) g_Site_put (fun f fd F => F.binds (ps := ["self", "slot", "value"]) fun _ _ _ _ _ _ us hl => match us, hl with | [_, _, _], _ => rfl) (fun f fd F => ok_put F T D_Heap_set_slot D_Marks_note_slot)
  have D_create := mkDef (P := P) (w := w) (base := base) X G g_create (fun f fd F => F.binds (ps := ["site", "slot", "field_count"]) fun _ _ _ _ _ _ us hl => match us, hl with | [_, _, _], _ => rfl) (fun f fd F => ok_create F T D_is_slot D_is_field_count D_Heap_make D_Site_put)
  have D_copy_slot := mkDef (P := P) (w := w) (base := base) X G g_copy_slot (fun f fd F => F.binds (ps := ["site", "target", "source"]) fun _ _ _ _ _ _ us hl => match us, hl with | [_, _, _], _ => rfl) (fun f fd F => ok_copy_slot F T D_is_slot D_Site_put)
  have D_clear_slot := mkDef (P := P) (w := w) (base := base) X G g_clear_slot (fun f fd F => F.binds (ps := ["site", "slot"]) fun _ _ _ _ _ _ us hl => match us, hl with | [_, _], _ => rfl) (fun f fd F => ok_clear_slot F T D_is_slot D_Site_put)
  have D_is_field := mkDef (P := P) (w := w) (base := base) X G g_is_field (fun f fd F => F.binds (ps := ["number"]) fun _ _ _ _ _ _ us hl => match us, hl with | [_], _ => rfl) (fun f fd F => ok_is_field F T)
  have D_field_fault := mkDef (P := P) (w := w) (base := base) X G g_field_fault (fun f fd F => F.binds (ps := ["site", "slot", "field"]) fun _ _ _ _ _ _ us hl => match us, hl with | [_, _, _], _ => rfl) (fun f fd F => ok_field_fault F T)
  have D_read_field := mkDef (P := P) (w := w) (base := base) X G g_read_field (fun f fd F => F.binds (ps := ["site", "target", "source", "field"]) fun _ _ _ _ _ _ us hl => match us, hl with | [_, _, _, _], _ => rfl) (fun f fd F => ok_read_field F T D_is_slot D_is_field D_field_fault D_Site_put)
  have D_Heap_set_field := mkMDef (P := P) (w := w) (mg := mg) (base := base) g_Heap_set_field (fun f fd F => F.binds (ps := ["self", "number", "field", "value"]) fun _ _ _ _ _ _ us hl => match us, hl with | [_, _, _, _], _ => rfl) (fun f fd F => ok_set_field F T)
  have D_Marks_note_field := mkMDef (P := P) (w := w) (mg := mg) (base := base) g_Marks_note_field (fun f fd F => F.binds (ps := ["self", "number"]) fun _ _ _ _ _ _ us hl => match us, hl with | [_, _], _ => rfl) (fun f fd F => ok_note_field F T)
  have D_Site_change_field := mkMDef (P := P) (w := w) (mg := mg) (base := base) g_Site_change_field (fun f fd F => F.binds (ps := ["self", "number", "field", "value"]) fun _ _ _ _ _ _ us hl => match us, hl with | [_, _, _, _], _ => rfl) (fun f fd F => ok_change_field F T D_Heap_set_field D_Marks_note_field)
  have D_write_field := mkDef (P := P) (w := w) (base := base) X G g_write_field (fun f fd F => F.binds (ps := ["site", "target", "field", "source"]) fun _ _ _ _ _ _ us hl => match us, hl with | [_, _, _, _], _ => rfl) (fun f fd F => ok_write_field F T D_is_slot D_is_field D_field_fault D_Site_change_field)
  have D_program_answer := mkDef (P := P) (w := w) (base := base) X G g_program_answer (fun f fd F => F.binds (ps := ["site", "operation", "given"]) fun _ _ _ _ _ _ us hl => match us, hl with | [_, _, _], _ => rfl) (fun f fd F => ok_program_answer F T D_create D_copy_slot D_clear_slot D_read_field D_write_field)
  have D_Marks_note_entry := mkMDef (P := P) (w := w) (mg := mg) (base := base) g_Marks_note_entry (fun f fd F => F.binds (ps := ["self", "number"]) fun _ _ _ _ _ _ us hl => match us, hl with | [_, _], _ => rfl) (fun f fd F => ok_note_entry F T)
  have D_Names_use_entry := mkMDef (P := P) (w := w) (mg := mg) (base := base) g_Names_use_entry (fun f fd F => F.binds (ps := ["self", "number"]) fun _ _ _ _ _ _ us hl => match us, hl with | [_, _], _ => rfl) (fun f fd F => ok_use_entry F T)
  have D_Site_use_object := mkMDef (P := P) (w := w) (mg := mg) (base := base) g_Site_use_object (fun f fd F => F.binds (ps := ["self", "number"]) fun _ _ _ _ _ _ us hl => match us, hl with | [_, _], _ => rfl) (fun f fd F => ok_use_object F T D_Marks_note_entry D_Names_use_entry)
  have D_Names_use_import := mkMDef (P := P) (w := w) (mg := mg) (base := base) g_Names_use_import (fun f fd F => F.binds (ps := ["self", "number"]) fun _ _ _ _ _ _ us hl => match us, hl with | [_, _], _ => rfl) (fun f fd F => ok_use_import F T)
  have D_export := mkDef (P := P) (w := w) (base := base) X G g_export (fun f fd F => F.binds (ps := ["site", "slot"]) fun _ _ _ _ _ _ us hl => match us, hl with | [_, _], _ => rfl) (fun f fd F => ok_export F T D_is_slot D_Site_use_object D_Names_use_import)
  have D_Site_stamp_of := mkMDef (P := P) (w := w) (mg := mg) (base := base) g_Site_stamp_of (fun f fd F => F.binds (ps := ["self", "kind", "number"]) fun _ _ _ _ _ _ us hl => match us, hl with | [_, _, _], _ => rfl) (fun f fd F => ok_stamp_of F T)
  have D_arrive := mkDef (P := P) (w := w) (base := base) X G g_arrive (fun f fd F => F.binds (ps := ["site", "number", "slot"]) fun _ _ _ _ _ _ us hl => match us, hl with | [_, _, _], _ => rfl) (fun f fd F => ok_arrive F T D_is_slot D_Site_stamp_of D_Site_use_object D_Site_put)
  have D_is_foreign := mkDef (P := P) (w := w) (base := base) X G g_is_foreign (fun f fd F => F.binds (ps := ["number"]) fun _ _ _ _ _ _ us hl => match us, hl with | [_], _ => rfl) (fun f fd F => ok_is_foreign F T)
  have D_import_foreign := mkDef (P := P) (w := w) (base := base) X G g_import_foreign (fun f fd F => F.binds (ps := ["site", "foreign", "slot"]) fun _ _ _ _ _ _ us hl => match us, hl with | [_, _, _], _ => rfl) (fun f fd F => ok_import_foreign F T D_is_slot D_is_foreign D_Site_stamp_of D_Names_use_import D_Site_put)
  have D_Names_drop_entry := mkMDef (P := P) (w := w) (mg := mg) (base := base) g_Names_drop_entry (fun f fd F => F.binds (ps := ["self", "number"]) fun _ _ _ _ _ _ us hl => match us, hl with | [_, _], _ => rfl) (fun f fd F => ok_drop_entry F T)
  have D_retire := mkDef (P := P) (w := w) (base := base) X G g_retire (fun f fd F => F.binds (ps := ["site", "number"]) fun _ _ _ _ _ _ us hl => match us, hl with | [_, _], _ => rfl) (fun f fd F => ok_retire F T D_Site_stamp_of D_Names_drop_entry)
  have D_entries_now := mkDef (P := P) (w := w) (base := base) X G g_entries_now (fun f fd F => F.binds (ps := ["site"]) fun _ _ _ _ _ _ us hl => match us, hl with | [_], _ => rfl) (fun f fd F => ok_entries_now F T)
  have D_add_new := mkDef (P := P) (w := w) (base := base) X G g_add_new (fun f fd F => F.binds (ps := ["found", "values"]) fun _ _ _ _ _ _ us hl => match us, hl with | [_, _], _ => rfl) (fun f fd F => ok_add_new F T)
  have D_fields_of := mkDef (P := P) (w := w) (base := base) X G g_fields_of (fun f fd F => F.binds (ps := ["heap", "value"]) fun _ _ _ _ _ _ us hl => match us, hl with | [_, _], _ => rfl) (fun f fd F => ok_fields_of F T)
  have D_reached := mkDef (P := P) (w := w) (base := base) X G g_reached (fun f fd F => F.binds (ps := ["heap", "seeds"]) fun _ _ _ _ _ _ us hl => match us, hl with | [_, _], _ => rfl) (fun f fd F => ok_reached F T D_add_new D_fields_of)
  have D_all_led := mkDef (P := P) (w := w) (base := base) X G g_all_led (fun f fd F => F.binds (ps := ["site"]) fun _ _ _ _ _ _ us hl => match us, hl with | [_], _ => rfl) (fun f fd F => ok_all_led F T D_entries_now D_reached)
  have D_objects_now := mkDef (P := P) (w := w) (base := base) X G g_objects_now (fun f fd F => F.binds (ps := ["site"]) fun _ _ _ _ _ _ us hl => match us, hl with | [_], _ => rfl) (fun f fd F => ok_objects_now F T)
  have D_imports_now := mkDef (P := P) (w := w) (base := base) X G g_imports_now (fun f fd F => F.binds (ps := ["site"]) fun _ _ _ _ _ _ us hl => match us, hl with | [_], _ => rfl) (fun f fd F => ok_imports_now F T)
  have D_Heap_drop := mkMDef (P := P) (w := w) (mg := mg) (base := base) g_Heap_drop (fun f fd F => F.binds (ps := ["self", "number"]) fun _ _ _ _ _ _ us hl => match us, hl with | [_, _], _ => rfl) (fun f fd F => ok_drop F T)
  have D_Names_drop_import := mkMDef (P := P) (w := w) (mg := mg) (base := base) g_Names_drop_import (fun f fd F => F.binds (ps := ["self", "number"]) fun _ _ _ _ _ _ us hl => match us, hl with | [_, _], _ => rfl) (fun f fd F => ok_drop_import F T)
  have D_collect := mkDef (P := P) (w := w) (base := base) X G g_collect (fun f fd F => F.binds (ps := ["site"]) fun _ _ _ _ _ _ us hl => match us, hl with | [_], _ => rfl) (fun f fd F => ok_collect F T D_all_led D_objects_now D_imports_now D_Heap_drop D_Names_drop_import)
  have D_traffic_answer := mkDef (P := P) (w := w) (base := base) X G g_traffic_answer (fun f fd F => F.binds (ps := ["site", "operation", "given"]) fun _ _ _ _ _ _ us hl => match us, hl with | [_, _, _], _ => rfl) (fun f fd F => ok_traffic_answer F T D_export D_arrive D_import_foreign D_retire D_collect)
  have D_Site_keep := mkMDef (P := P) (w := w) (mg := mg) (base := base) g_Site_keep (fun f fd F => F.binds (ps := ["self", "lines", "led"]) fun _ _ _ _ _ _ us hl => match us, hl with | [_, _, _], _ => rfl) (fun f fd F => ok_keep F T D_Marks_init)
  have D_line_sources := mkDef (P := P) (w := w) (base := base) X G g_line_sources (fun f fd F => F.binds (ps := ["entries", "table", "name"]) fun _ _ _ _ _ _ us hl => match us, hl with | [_, _, _], _ => rfl) (fun f fd F => ok_line_sources F T)
  have D_names_now := mkDef (P := P) (w := w) (base := base) X G g_names_now (fun f fd F => F.binds (ps := ["site"]) fun _ _ _ _ _ _ us hl => match us, hl with | [_], _ => rfl) (fun f fd F => ok_names_now F T D_entries_now D_imports_now)
  have D_led_by := mkDef (P := P) (w := w) (base := base) X G g_led_by (fun f fd F => F.binds (ps := ["heap", "source"]) fun _ _ _ _ _ _ us hl => match us, hl with | [_, _], _ => rfl) (fun f fd F => ok_led_by F T D_reached)
  have D_sources_now := mkDef (P := P) (w := w) (base := base) X G g_sources_now (fun f fd F => F.binds (ps := ["site"]) fun _ _ _ _ _ _ us hl => match us, hl with | [_], _ => rfl) (fun f fd F => ok_sources_now F T D_entries_now)
  have D_values_table := mkDef (P := P) (w := w) (base := base) X G g_values_table (fun f fd F => F.binds (ps := ["site"]) fun _ _ _ _ _ _ us hl => match us, hl with | [_], _ => rfl) (fun f fd F => ok_values_table F T D_led_by D_sources_now)
  have D_lines_now := mkDef (P := P) (w := w) (base := base) X G g_lines_now (fun f fd F => F.binds (ps := ["site"]) fun _ _ _ _ _ _ us hl => match us, hl with | [_], _ => rfl) (fun f fd F => ok_lines_now F T D_Site_stamp_of D_entries_now D_line_sources D_names_now D_values_table)
  have D_objects_led := mkDef (P := P) (w := w) (base := base) X G g_objects_led (fun f fd F => F.binds (ps := ["heap", "source"]) fun _ _ _ _ _ _ us hl => match us, hl with | [_, _], _ => rfl) (fun f fd F => ok_objects_led F T D_led_by)
  have D_objects_table := mkDef (P := P) (w := w) (base := base) X G g_objects_table (fun f fd F => F.binds (ps := ["site"]) fun _ _ _ _ _ _ us hl => match us, hl with | [_], _ => rfl) (fun f fd F => ok_objects_table F T D_objects_led D_sources_now)
  have D_any_changed := mkDef (P := P) (w := w) (base := base) X G g_any_changed (fun f fd F => F.binds (ps := ["marks", "numbers"]) fun _ _ _ _ _ _ us hl => match us, hl with | [_, _], _ => rfl) (fun f fd F => ok_any_changed F T)
  have D_is_affected := mkDef (P := P) (w := w) (base := base) X G g_is_affected (fun f fd F => F.binds (ps := ["site", "source"]) fun _ _ _ _ _ _ us hl => match us, hl with | [_, _], _ => rfl) (fun f fd F => ok_is_affected F T D_any_changed)
  have D_affected_now := mkDef (P := P) (w := w) (base := base) X G g_affected_now (fun f fd F => F.binds (ps := ["site"]) fun _ _ _ _ _ _ us hl => match us, hl with | [_], _ => rfl) (fun f fd F => ok_affected_now F T D_is_affected D_sources_now)
  have D_work_now := mkDef (P := P) (w := w) (base := base) X G g_work_now (fun f fd F => F.binds (ps := ["site"]) fun _ _ _ _ _ _ us hl => match us, hl with | [_], _ => rfl) (fun f fd F => ok_work_now F T D_affected_now D_objects_led)
  have D_make_survey := mkDef (P := P) (w := w) (base := base) X G g_make_survey (fun f fd F => F.binds (ps := ["site"]) fun _ _ _ _ _ _ us hl => match us, hl with | [_], _ => rfl) (fun f fd F => ok_make_survey F T D_Site_keep D_lines_now D_objects_table D_work_now)
  have D_has_survey := mkDef (P := P) (w := w) (base := base) X G g_has_survey (fun f fd F => F.binds (ps := ["site", "index"]) fun _ _ _ _ _ _ us hl => match us, hl with | [_, _], _ => rfl) (fun f fd F => ok_has_survey F T)
  have D_show_survey := mkDef (P := P) (w := w) (base := base) X G g_show_survey (fun f fd F => F.binds (ps := ["site", "index"]) fun _ _ _ _ _ _ us hl => match us, hl with | [_, _], _ => rfl) (fun f fd F => ok_show_survey F T D_has_survey)
  have D_find_line := mkDef (P := P) (w := w) (base := base) X G g_find_line (fun f fd F => F.binds (ps := ["lines", "kind", "number"]) fun _ _ _ _ _ _ us hl => match us, hl with | [_, _, _], _ => rfl) (fun f fd F => ok_find_line F T)
  have D_has_stamp_of := mkDef (P := P) (w := w) (base := base) X G g_has_stamp_of (fun f fd F => F.binds (ps := ["site", "lines", "name"]) fun _ _ _ _ _ _ us hl => match us, hl with | [_, _, _], _ => rfl) (fun f fd F => ok_has_stamp_of F T D_Site_stamp_of D_find_line)
  have D_first_moved := mkDef (P := P) (w := w) (base := base) X G g_first_moved (fun f fd F => F.binds (ps := ["site", "lines", "line"]) fun _ _ _ _ _ _ us hl => match us, hl with | [_, _, _], _ => rfl) (fun f fd F => ok_first_moved F T D_has_stamp_of)
  have D_is_kind := mkDef (P := P) (w := w) (base := base) X G g_is_kind (fun f fd F => F.binds (ps := ["number"]) fun _ _ _ _ _ _ us hl => match us, hl with | [_], _ => rfl) (fun f fd F => ok_is_kind F T)
  have D_tell_current := mkDef (P := P) (w := w) (base := base) X G g_tell_current (fun f fd F => F.binds (ps := ["site", "index", "kind", "number"]) fun _ _ _ _ _ _ us hl => match us, hl with | [_, _, _, _], _ => rfl) (fun f fd F => ok_tell_current F T D_find_line D_first_moved D_has_survey D_is_kind)
  have D_show_lines := mkDef (P := P) (w := w) (base := base) X G g_show_lines (fun f fd F => F.binds (ps := ["site"]) fun _ _ _ _ _ _ us hl => match us, hl with | [_], _ => rfl) (fun f fd F => ok_show_lines F T D_lines_now)
  have D_show_affected := mkDef (P := P) (w := w) (base := base) X G g_show_affected (fun f fd F => F.binds (ps := ["site"]) fun _ _ _ _ _ _ us hl => match us, hl with | [_], _ => rfl) (fun f fd F => ok_show_affected F T D_affected_now D_work_now)
  have D_asking_answer := mkDef (P := P) (w := w) (base := base) X G g_asking_answer (fun f fd F => F.binds (ps := ["site", "operation", "given"]) fun _ _ _ _ _ _ us hl => match us, hl with | [_, _, _], _ => rfl) (fun f fd F => ok_asking_answer F T D_make_survey D_show_survey D_tell_current D_show_lines D_show_affected)
  have D_add_ways := mkDef (P := P) (w := w) (base := base) X G g_add_ways (fun f fd F => F.binds (ps := ["found", "ways", "values", "way"]) fun _ _ _ _ _ _ us hl => match us, hl with | [_, _, _, _], _ => rfl) (fun f fd F => ok_add_ways F T)
  have D_first_values := mkDef (P := P) (w := w) (base := base) X G g_first_values (fun f fd F => F.binds (ps := ["heap", "source"]) fun _ _ _ _ _ _ us hl => match us, hl with | [_, _], _ => rfl) (fun f fd F => ok_first_values F T)
  have D_first_path := mkDef (P := P) (w := w) (base := base) X G g_first_path (fun f fd F => F.binds (ps := ["heap", "source", "target"]) fun _ _ _ _ _ _ us hl => match us, hl with | [_, _, _], _ => rfl) (fun f fd F => ok_first_path F T D_add_ways D_fields_of D_first_values)
  have D_is_source := mkDef (P := P) (w := w) (base := base) X G g_is_source (fun f fd F => F.binds (ps := ["site", "source"]) fun _ _ _ _ _ _ us hl => match us, hl with | [_, _], _ => rfl) (fun f fd F => ok_is_source F T D_Site_stamp_of)
  have D_Site_has_object := mkMDef (P := P) (w := w) (mg := mg) (base := base) g_Site_has_object (fun f fd F => F.binds (ps := ["self", "number"]) fun _ _ _ _ _ _ us hl => match us, hl with | [_, _], _ => rfl) (fun f fd F => ok_has_object F T)
  have D_is_target := mkDef (P := P) (w := w) (base := base) X G g_is_target (fun f fd F => F.binds (ps := ["site", "kind", "number"]) fun _ _ _ _ _ _ us hl => match us, hl with | [_, _, _], _ => rfl) (fun f fd F => ok_is_target F T D_Site_has_object D_Site_stamp_of)
  have D_show_path := mkDef (P := P) (w := w) (base := base) X G g_show_path (fun f fd F => F.binds (ps := ["site", "source", "kind", "number"]) fun _ _ _ _ _ _ us hl => match us, hl with | [_, _, _, _], _ => rfl) (fun f fd F => ok_show_path F T D_first_path D_is_kind D_is_source D_is_target)
  have D_show_stamp := mkDef (P := P) (w := w) (base := base) X G g_show_stamp (fun f fd F => F.binds (ps := ["site", "kind", "number"]) fun _ _ _ _ _ _ us hl => match us, hl with | [_, _, _], _ => rfl) (fun f fd F => ok_show_stamp F T D_Site_stamp_of D_is_kind)
  have D_pairs_flat := mkDef (P := P) (w := w) (base := base) X G g_pairs_flat (fun f fd F => F.binds (ps := ["values"]) fun _ _ _ _ _ _ us hl => match us, hl with | [_], _ => rfl) (fun f fd F => ok_pairs_flat F T)
  have D_show_object := mkDef (P := P) (w := w) (base := base) X G g_show_object (fun f fd F => F.binds (ps := ["site", "number"]) fun _ _ _ _ _ _ us hl => match us, hl with | [_, _], _ => rfl) (fun f fd F => ok_show_object F T D_Site_has_object D_pairs_flat)
  have D_show_slots := mkDef (P := P) (w := w) (base := base) X G g_show_slots (fun f fd F => F.binds (ps := ["site"]) fun _ _ _ _ _ _ us hl => match us, hl with | [_], _ => rfl) (fun f fd F => ok_show_slots F T D_pairs_flat)
  have D_show_status := mkDef (P := P) (w := w) (base := base) X G g_show_status (fun f fd F => F.binds (ps := ["site"]) fun _ _ _ _ _ _ us hl => match us, hl with | [_], _ => rfl) (fun f fd F => ok_show_status F T D_entries_now D_imports_now D_objects_now)
  have D_looking_answer := mkDef (P := P) (w := w) (base := base) X G g_looking_answer (fun f fd F => F.binds (ps := ["site", "operation", "given"]) fun _ _ _ _ _ _ us hl => match us, hl with | [_, _, _], _ => rfl) (fun f fd F => ok_looking_answer F T D_show_path D_show_stamp D_show_object D_show_slots D_show_status)
  have D_one_answer := mkDef (P := P) (w := w) (base := base) X G g_one_answer (fun f fd F => F.binds (ps := ["site", "operation", "given"]) fun _ _ _ _ _ _ us hl => match us, hl with | [_, _, _], _ => rfl) (fun f fd F => ok_one_answer F T D_program_answer D_traffic_answer D_asking_answer D_looking_answer)
  exact ok_answers F0 T D_Site_init D_one_answer
end Sw
end
open PySem PySem.W PyProof.Rows
set_option maxRecDepth 100000 in
set_option maxHeartbeats 0 in
theorem PySem.Challenge.cw_surveyline_s01_answers_holds : PySem.Challenge.rw_surveyline_s01_answers.Holds := by
  w_on; k_headS; (case hw => exact ⟨[.list [.int 19]], by decide +kernel, by decide +kernel⟩)
  k_fillS
  refine L2.walk_specK (r := PySem.Challenge.rw_surveyline_s01_answers) (k := 9) (CX := L2.CX0) (ps := ["calls"]) (sp := Sw.spAns) (by decide +kernel) rfl rfl ⟨rfl, by decide, by decide⟩ (fun w h Y => PySem.W.kIn_of Y) ?F ?S (fun _ _ _ _ z => z)
  case F =>
    intro w mg fa h Y KX G hmg
    refine' Sw.all_mk KX G hmg ?q_Site ?q_Heap ?q_Names ?q_Marks ?n_heap ?n_names ?n_marks ?n_surveys ?n_slots ?n_made ?n_rows ?n_living ?n_uses ?n_es ?n_im ?n_led ?n_sc ?n_changed ?n_fresh ?i_OBJECT ?i_FOREIGN ?i_SLOT_COUNT ?i_MOST_FIELDS ?i_MOST_OBJECTS ?i_MOST_FOREIGN ?i_MOST_VALUES ?i_MOST_SURVEYS ?i_OUT_OF_RANGE ?i_NOT_IN_SLOT ?i_NO_FIELD ?i_NOT_THERE ?i_NO_SURVEY ?i_TOO_MANY ?i_NOTHING ?x_NOTHING ?i_SIZES ?x_SIZES ?z_len ?z_range ?z_enumerate ?g_Heap_init ?g_Names_init ?g_Marks_init ?g_Site_init ?g_is_slot ?g_is_field_count ?g_Heap_make ?g_Heap_set_slot ?g_Marks_note_slot ?g_Site_put ?g_create ?g_copy_slot ?g_clear_slot ?g_is_field ?g_field_fault ?g_read_field ?g_Heap_set_field ?g_Marks_note_field ?g_Site_change_field ?g_write_field ?g_program_answer ?g_Marks_note_entry ?g_Names_use_entry ?g_Site_use_object ?g_Names_use_import ?g_export ?g_Site_stamp_of ?g_arrive ?g_is_foreign ?g_import_foreign ?g_Names_drop_entry ?g_retire ?g_entries_now ?g_add_new ?g_fields_of ?g_reached ?g_all_led ?g_objects_now ?g_imports_now ?g_Heap_drop ?g_Names_drop_import ?g_collect ?g_traffic_answer ?g_Site_keep ?g_line_sources ?g_names_now ?g_led_by ?g_sources_now ?g_values_table ?g_lines_now ?g_objects_led ?g_objects_table ?g_any_changed ?g_is_affected ?g_affected_now ?g_work_now ?g_make_survey ?g_has_survey ?g_show_survey ?g_find_line ?g_has_stamp_of ?g_first_moved ?g_is_kind ?g_tell_current ?g_show_lines ?g_show_affected ?g_asking_answer ?g_add_ways ?g_first_values ?g_first_path ?g_is_source ?g_Site_has_object ?g_is_target ?g_show_path ?g_show_stamp ?g_pairs_flat ?g_show_object ?g_show_slots ?g_show_status ?g_looking_answer ?g_one_answer ?g_answers
    (case q_Site => refine' ⟨?a, ⟨?b, ?d, ?e, ?f⟩, ?g, ?i⟩; (case a => k_is); (case b => k_is); (case d => k_is); (case e => k_is); (case f => k_is); (case g => k_is); (case i => k_is))
    (case q_Heap => refine' ⟨?a, ⟨?b, ?d, ?e, ?f⟩, ?g, ?i⟩; (case a => k_is); (case b => k_is); (case d => k_is); (case e => k_is); (case f => k_is); (case g => k_is); (case i => k_is))
    (case q_Names => refine' ⟨?a, ⟨?b, ?d, ?e, ?f⟩, ?g, ?i⟩; (case a => k_is); (case b => k_is); (case d => k_is); (case e => k_is); (case f => k_is); (case g => k_is); (case i => k_is))
    (case q_Marks => refine' ⟨?a, ⟨?b, ?d, ?e, ?f⟩, ?g, ?i⟩; (case a => k_is); (case b => k_is); (case d => k_is); (case e => k_is); (case f => k_is); (case g => k_is); (case i => k_is))
    (case n_heap => unfold L2.NoAttr; k_is)
    (case n_names => unfold L2.NoAttr; k_is)
    (case n_marks => unfold L2.NoAttr; k_is)
    (case n_surveys => unfold L2.NoAttr; k_is)
    (case n_slots => unfold L2.NoAttr; k_is)
    (case n_made => unfold L2.NoAttr; k_is)
    (case n_rows => unfold L2.NoAttr; k_is)
    (case n_living => unfold L2.NoAttr; k_is)
    (case n_uses => unfold L2.NoAttr; k_is)
    (case n_es => unfold L2.NoAttr; k_is)
    (case n_im => unfold L2.NoAttr; k_is)
    (case n_led => unfold L2.NoAttr; k_is)
    (case n_sc => unfold L2.NoAttr; k_is)
    (case n_changed => unfold L2.NoAttr; k_is)
    (case n_fresh => unfold L2.NoAttr; k_is)
    (case i_OBJECT => k_is)
    (case i_FOREIGN => k_is)
    (case i_SLOT_COUNT => k_is)
    (case i_MOST_FIELDS => k_is)
    (case i_MOST_OBJECTS => k_is)
    (case i_MOST_FOREIGN => k_is)
    (case i_MOST_VALUES => k_is)
    (case i_MOST_SURVEYS => k_is)
    (case i_OUT_OF_RANGE => k_is)
    (case i_NOT_IN_SLOT => k_is)
    (case i_NO_FIELD => k_is)
    (case i_NOT_THERE => k_is)
    (case i_NO_SURVEY => k_is)
    (case i_TOO_MANY => k_is)
    (case i_NOTHING => k_is)
    (case x_NOTHING => refine' Sw.gtup ?l ?z ?v; (case l => k_is); (case z => decide +kernel); (case v => repeat (first | exact .nil | refine .cons ⟨_, rfl⟩ ?_)))
    (case i_SIZES => k_is)
    (case x_SIZES => refine' Sw.gtup ?l ?z ?v; (case l => k_is); (case z => decide +kernel); (case v => repeat (first | exact .nil | refine .cons ⟨_, rfl⟩ ?_)))
    (case z_len => k_is)
    (case z_range => k_is)
    (case z_enumerate => k_is)
    (case g_Heap_init => refine' Sw.gmeth ?a ?i ?l ?c ?k; (case a => k_is); (case i => k_is); (case l => k_is); (case c => k_is); (case k => k_is))
    (case g_Names_init => refine' Sw.gmeth ?a ?i ?l ?c ?k; (case a => k_is); (case i => k_is); (case l => k_is); (case c => k_is); (case k => k_is))
    (case g_Marks_init => refine' Sw.gmeth ?a ?i ?l ?c ?k; (case a => k_is); (case i => k_is); (case l => k_is); (case c => k_is); (case k => k_is))
    (case g_Site_init => refine' Sw.gmeth ?a ?i ?l ?c ?k; (case a => k_is); (case i => k_is); (case l => k_is); (case c => k_is); (case k => k_is))
    (case g_is_slot => refine' Sw.gfn ?a ?l ?c ?k; (case a => k_is); (case l => k_is); (case c => k_is); (case k => k_is))
    (case g_is_field_count => refine' Sw.gfn ?a ?l ?c ?k; (case a => k_is); (case l => k_is); (case c => k_is); (case k => k_is))
    (case g_Heap_make => refine' Sw.gmeth ?a ?i ?l ?c ?k; (case a => k_is); (case i => k_is); (case l => k_is); (case c => k_is); (case k => k_is))
    (case g_Heap_set_slot => refine' Sw.gmeth ?a ?i ?l ?c ?k; (case a => k_is); (case i => k_is); (case l => k_is); (case c => k_is); (case k => k_is))
    (case g_Marks_note_slot => refine' Sw.gmeth ?a ?i ?l ?c ?k; (case a => k_is); (case i => k_is); (case l => k_is); (case c => k_is); (case k => k_is))
    (case g_Site_put => refine' Sw.gmeth ?a ?i ?l ?c ?k; (case a => k_is); (case i => k_is); (case l => k_is); (case c => k_is); (case k => k_is))
    (case g_create => refine' Sw.gfn ?a ?l ?c ?k; (case a => k_is); (case l => k_is); (case c => k_is); (case k => k_is))
    (case g_copy_slot => refine' Sw.gfn ?a ?l ?c ?k; (case a => k_is); (case l => k_is); (case c => k_is); (case k => k_is))
    (case g_clear_slot => refine' Sw.gfn ?a ?l ?c ?k; (case a => k_is); (case l => k_is); (case c => k_is); (case k => k_is))
    (case g_is_field => refine' Sw.gfn ?a ?l ?c ?k; (case a => k_is); (case l => k_is); (case c => k_is); (case k => k_is))
    (case g_field_fault => refine' Sw.gfn ?a ?l ?c ?k; (case a => k_is); (case l => k_is); (case c => k_is); (case k => k_is))
    (case g_read_field => refine' Sw.gfn ?a ?l ?c ?k; (case a => k_is); (case l => k_is); (case c => k_is); (case k => k_is))
    (case g_Heap_set_field => refine' Sw.gmeth ?a ?i ?l ?c ?k; (case a => k_is); (case i => k_is); (case l => k_is); (case c => k_is); (case k => k_is))
    (case g_Marks_note_field => refine' Sw.gmeth ?a ?i ?l ?c ?k; (case a => k_is); (case i => k_is); (case l => k_is); (case c => k_is); (case k => k_is))
    (case g_Site_change_field => refine' Sw.gmeth ?a ?i ?l ?c ?k; (case a => k_is); (case i => k_is); (case l => k_is); (case c => k_is); (case k => k_is))
    (case g_write_field => refine' Sw.gfn ?a ?l ?c ?k; (case a => k_is); (case l => k_is); (case c => k_is); (case k => k_is))
    (case g_program_answer => refine' Sw.gfn ?a ?l ?c ?k; (case a => k_is); (case l => k_is); (case c => k_is); (case k => k_is))
    (case g_Marks_note_entry => refine' Sw.gmeth ?a ?i ?l ?c ?k; (case a => k_is); (case i => k_is); (case l => k_is); (case c => k_is); (case k => k_is))
    (case g_Names_use_entry => refine' Sw.gmeth ?a ?i ?l ?c ?k; (case a => k_is); (case i => k_is); (case l => k_is); (case c => k_is); (case k => k_is))
    (case g_Site_use_object => refine' Sw.gmeth ?a ?i ?l ?c ?k; (case a => k_is); (case i => k_is); (case l => k_is); (case c => k_is); (case k => k_is))
    (case g_Names_use_import => refine' Sw.gmeth ?a ?i ?l ?c ?k; (case a => k_is); (case i => k_is); (case l => k_is); (case c => k_is); (case k => k_is))
    (case g_export => refine' Sw.gfn ?a ?l ?c ?k; (case a => k_is); (case l => k_is); (case c => k_is); (case k => k_is))
    (case g_Site_stamp_of => refine' Sw.gmeth ?a ?i ?l ?c ?k; (case a => k_is); (case i => k_is); (case l => k_is); (case c => k_is); (case k => k_is))
    (case g_arrive => refine' Sw.gfn ?a ?l ?c ?k; (case a => k_is); (case l => k_is); (case c => k_is); (case k => k_is))
    (case g_is_foreign => refine' Sw.gfn ?a ?l ?c ?k; (case a => k_is); (case l => k_is); (case c => k_is); (case k => k_is))
    (case g_import_foreign => refine' Sw.gfn ?a ?l ?c ?k; (case a => k_is); (case l => k_is); (case c => k_is); (case k => k_is))
    (case g_Names_drop_entry => refine' Sw.gmeth ?a ?i ?l ?c ?k; (case a => k_is); (case i => k_is); (case l => k_is); (case c => k_is); (case k => k_is))
    (case g_retire => refine' Sw.gfn ?a ?l ?c ?k; (case a => k_is); (case l => k_is); (case c => k_is); (case k => k_is))
    (case g_entries_now => refine' Sw.gfn ?a ?l ?c ?k; (case a => k_is); (case l => k_is); (case c => k_is); (case k => k_is))
    (case g_add_new => refine' Sw.gfn ?a ?l ?c ?k; (case a => k_is); (case l => k_is); (case c => k_is); (case k => k_is))
    (case g_fields_of => refine' Sw.gfn ?a ?l ?c ?k; (case a => k_is); (case l => k_is); (case c => k_is); (case k => k_is))
    (case g_reached => refine' Sw.gfn ?a ?l ?c ?k; (case a => k_is); (case l => k_is); (case c => k_is); (case k => k_is))
    (case g_all_led => refine' Sw.gfn ?a ?l ?c ?k; (case a => k_is); (case l => k_is); (case c => k_is); (case k => k_is))
    (case g_objects_now => refine' Sw.gfn ?a ?l ?c ?k; (case a => k_is); (case l => k_is); (case c => k_is); (case k => k_is))
    (case g_imports_now => refine' Sw.gfn ?a ?l ?c ?k; (case a => k_is); (case l => k_is); (case c => k_is); (case k => k_is))
    (case g_Heap_drop => refine' Sw.gmeth ?a ?i ?l ?c ?k; (case a => k_is); (case i => k_is); (case l => k_is); (case c => k_is); (case k => k_is))
    (case g_Names_drop_import => refine' Sw.gmeth ?a ?i ?l ?c ?k; (case a => k_is); (case i => k_is); (case l => k_is); (case c => k_is); (case k => k_is))
    (case g_collect => refine' Sw.gfn ?a ?l ?c ?k; (case a => k_is); (case l => k_is); (case c => k_is); (case k => k_is))
    (case g_traffic_answer => refine' Sw.gfn ?a ?l ?c ?k; (case a => k_is); (case l => k_is); (case c => k_is); (case k => k_is))
    (case g_Site_keep => refine' Sw.gmeth ?a ?i ?l ?c ?k; (case a => k_is); (case i => k_is); (case l => k_is); (case c => k_is); (case k => k_is))
    (case g_line_sources => refine' Sw.gfn ?a ?l ?c ?k; (case a => k_is); (case l => k_is); (case c => k_is); (case k => k_is))
    (case g_names_now => refine' Sw.gfn ?a ?l ?c ?k; (case a => k_is); (case l => k_is); (case c => k_is); (case k => k_is))
    (case g_led_by => refine' Sw.gfn ?a ?l ?c ?k; (case a => k_is); (case l => k_is); (case c => k_is); (case k => k_is))
    (case g_sources_now => refine' Sw.gfn ?a ?l ?c ?k; (case a => k_is); (case l => k_is); (case c => k_is); (case k => k_is))
    (case g_values_table => refine' Sw.gfn ?a ?l ?c ?k; (case a => k_is); (case l => k_is); (case c => k_is); (case k => k_is))
    (case g_lines_now => refine' Sw.gfn ?a ?l ?c ?k; (case a => k_is); (case l => k_is); (case c => k_is); (case k => k_is))
    (case g_objects_led => refine' Sw.gfn ?a ?l ?c ?k; (case a => k_is); (case l => k_is); (case c => k_is); (case k => k_is))
    (case g_objects_table => refine' Sw.gfn ?a ?l ?c ?k; (case a => k_is); (case l => k_is); (case c => k_is); (case k => k_is))
    (case g_any_changed => refine' Sw.gfn ?a ?l ?c ?k; (case a => k_is); (case l => k_is); (case c => k_is); (case k => k_is))
    (case g_is_affected => refine' Sw.gfn ?a ?l ?c ?k; (case a => k_is); (case l => k_is); (case c => k_is); (case k => k_is))
    (case g_affected_now => refine' Sw.gfn ?a ?l ?c ?k; (case a => k_is); (case l => k_is); (case c => k_is); (case k => k_is))
    (case g_work_now => refine' Sw.gfn ?a ?l ?c ?k; (case a => k_is); (case l => k_is); (case c => k_is); (case k => k_is))
    (case g_make_survey => refine' Sw.gfn ?a ?l ?c ?k; (case a => k_is); (case l => k_is); (case c => k_is); (case k => k_is))
    (case g_has_survey => refine' Sw.gfn ?a ?l ?c ?k; (case a => k_is); (case l => k_is); (case c => k_is); (case k => k_is))
    (case g_show_survey => refine' Sw.gfn ?a ?l ?c ?k; (case a => k_is); (case l => k_is); (case c => k_is); (case k => k_is))
    (case g_find_line => refine' Sw.gfn ?a ?l ?c ?k; (case a => k_is); (case l => k_is); (case c => k_is); (case k => k_is))
    (case g_has_stamp_of => refine' Sw.gfn ?a ?l ?c ?k; (case a => k_is); (case l => k_is); (case c => k_is); (case k => k_is))
    (case g_first_moved => refine' Sw.gfn ?a ?l ?c ?k; (case a => k_is); (case l => k_is); (case c => k_is); (case k => k_is))
    (case g_is_kind => refine' Sw.gfn ?a ?l ?c ?k; (case a => k_is); (case l => k_is); (case c => k_is); (case k => k_is))
    (case g_tell_current => refine' Sw.gfn ?a ?l ?c ?k; (case a => k_is); (case l => k_is); (case c => k_is); (case k => k_is))
    (case g_show_lines => refine' Sw.gfn ?a ?l ?c ?k; (case a => k_is); (case l => k_is); (case c => k_is); (case k => k_is))
    (case g_show_affected => refine' Sw.gfn ?a ?l ?c ?k; (case a => k_is); (case l => k_is); (case c => k_is); (case k => k_is))
    (case g_asking_answer => refine' Sw.gfn ?a ?l ?c ?k; (case a => k_is); (case l => k_is); (case c => k_is); (case k => k_is))
    (case g_add_ways => refine' Sw.gfn ?a ?l ?c ?k; (case a => k_is); (case l => k_is); (case c => k_is); (case k => k_is))
    (case g_first_values => refine' Sw.gfn ?a ?l ?c ?k; (case a => k_is); (case l => k_is); (case c => k_is); (case k => k_is))
    (case g_first_path => refine' Sw.gfn ?a ?l ?c ?k; (case a => k_is); (case l => k_is); (case c => k_is); (case k => k_is))
    (case g_is_source => refine' Sw.gfn ?a ?l ?c ?k; (case a => k_is); (case l => k_is); (case c => k_is); (case k => k_is))
    (case g_Site_has_object => refine' Sw.gmeth ?a ?i ?l ?c ?k; (case a => k_is); (case i => k_is); (case l => k_is); (case c => k_is); (case k => k_is))
    (case g_is_target => refine' Sw.gfn ?a ?l ?c ?k; (case a => k_is); (case l => k_is); (case c => k_is); (case k => k_is))
    (case g_show_path => refine' Sw.gfn ?a ?l ?c ?k; (case a => k_is); (case l => k_is); (case c => k_is); (case k => k_is))
    (case g_show_stamp => refine' Sw.gfn ?a ?l ?c ?k; (case a => k_is); (case l => k_is); (case c => k_is); (case k => k_is))
    (case g_pairs_flat => refine' Sw.gfn ?a ?l ?c ?k; (case a => k_is); (case l => k_is); (case c => k_is); (case k => k_is))
    (case g_show_object => refine' Sw.gfn ?a ?l ?c ?k; (case a => k_is); (case l => k_is); (case c => k_is); (case k => k_is))
    (case g_show_slots => refine' Sw.gfn ?a ?l ?c ?k; (case a => k_is); (case l => k_is); (case c => k_is); (case k => k_is))
    (case g_show_status => refine' Sw.gfn ?a ?l ?c ?k; (case a => k_is); (case l => k_is); (case c => k_is); (case k => k_is))
    (case g_looking_answer => refine' Sw.gfn ?a ?l ?c ?k; (case a => k_is); (case l => k_is); (case c => k_is); (case k => k_is))
    (case g_one_answer => refine' Sw.gfn ?a ?l ?c ?k; (case a => k_is); (case l => k_is); (case c => k_is); (case k => k_is))
    (case g_answers => refine' Sw.gfn ?a ?l ?c ?k; (case a => k_is); (case l => k_is); (case c => k_is); (case k => k_is))
  case S =>
    intro K H xs a hO hwi hask hx
    cases hx with
    | cons h1 h2 =>
      cases h2
      cases h1 with
      | lst hs ha =>
        have e := L2.ints_dw a.1 _ ha
        subst e
        exact ⟨_, a.1, rfl, hs, hask, fun H' p hp => .lst (L2.SqL.of hp) (L2.dw_ints _)⟩
