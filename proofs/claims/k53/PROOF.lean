import PyProof.Rows.All
import HandS.ForMost
import HandS.Conv
import HandS.Deep
import HandS.IsInst
import HandS.TupAny
import HandS.Wide
import HandS.Zip
import KE.SortData
import KE.GoesEnum
import KE.DataMinMax
import KE.DataCmp
import KE.DataFind
import HandS.SortInts
import HandS.Strs
import HandS.TupLe
import KE.DataEq
import HandS.Flt
import HandS.Flow
import HandS.Comp
import HandS.Codes
import HandS.Gcd
import HandS.Style
import HandS.Exc
import HandS.Ends
import HandS.Defaults
import HandS.Head0
import HandS.Head1
import HandS.Head2
import HandS.HeadEnd
import HandS.HeadHook1
import HandS.HeadHook2
import PySem.Challenge.RW_farhouse_k53_whole_least_rounds_and_path
set_option Elab.async false
set_option linter.all false
set_option maxRecDepth 100000
/-! PF1: data as trees, and how the abstract heap bears them -/
namespace PF
open PySem PySem.Spec PyProof.Rows L2

/-- data that never changes -/
inductive T where
  | non | bl (b : Bool) | int (i : Int) | str (x : Str) | tup (xs : List T)
/-- data: pure; a list that one place alone holds; a tuple that holds such; a list that is only read; a dict -/
inductive D where
  | p (t : T) | l (xs : List D) | u (xs : List D) | ro (xs : List T) | c (ks : List T) (vs : List D)

/-- a tuple that is known to have no dict of its own -/
def SqD (K : PySem.W.Frag) (H : Hp) (a : Addr) (xs : List V) : Prop :=
  (∃ o : Obj, H a = some (.frz o (.tup xs)) ∧ o.dict = none) ∨
    ∃ (o : Obj) (n : Nat) (its : Array Value), o.dict = none ∧ K.lookup a = some o ∧ o.data = .seq its n ∧ o.cls = .type "tuple" ∧ Vals xs its.toList ∧ its.size ≤ sizeLine
theorem SqD.t {K : PySem.W.Frag} {H : Hp} {a : Addr} {xs : List V} (h : SqD K H a xs) : SqT K H a xs := by
  rcases h with ⟨o, h, _⟩ | ⟨o, n, its, h1, h2, h3, h4, h5, h6⟩
  · exact .inl (.inr ⟨o, h⟩)
  · exact .inr ⟨o, its, n, h2, h4, h3, h6, h5⟩
theorem SqD.obj {X : Cx} {pins : List (Addr × Obj)} {σ : L2.St} {H : Hp} {s : Shared} {a : Addr} {xs : List V} (I : Inv X pins σ H s) (h : SqD X.K H a xs) : ∃ o, s.heap.get? a = some o ∧ o.dict = none := by
  rcases h with ⟨o, h, hd⟩ | ⟨o, n, its, h1, h2, h3⟩
  · exact ⟨o, (I.hok a _ h).1, hd⟩
  · exact ⟨o, I.kIn a o h2, h1⟩
mutual
inductive RT (K : PySem.W.Frag) (H : Hp) : V → T → Prop
  | non : RT K H .non .non
  | bl (b : Bool) : RT K H (.bl b) (.bl b)
  | int (i : Int) : RT K H (.int i) (.int i)
  | str (x : Str) : RT K H (.str x) (.str x)
  | tup {a : Addr} {vs : List V} {ts : List T} : SqD K H a vs → RTs K H vs ts → RT K H (.ref a) (.tup ts)
inductive RTs (K : PySem.W.Frag) (H : Hp) : List V → List T → Prop
  | nil : RTs K H [] []
  | cons {v : V} {vs : List V} {t : T} {ts : List T} : RT K H v t → RTs K H vs ts → RTs K H (v :: vs) (t :: ts)
end
/-- a list that is only read -/
def SqF (K : PySem.W.Frag) (H : Hp) (a : Addr) (xs : List V) : Prop :=
  (∃ o, H a = some (.frz o (.lst xs))) ∨
    ∃ (o : Obj) (its : Array Value) (n : Nat), K.lookup a = some o ∧ o.cls = .type "list" ∧ o.dict = none ∧ o.data = .seq its n ∧ its.size ≤ sizeLine ∧ Vals xs its.toList
theorem SqF.l {K : PySem.W.Frag} {H : Hp} {a : Addr} {xs : List V} (h : SqF K H a xs) : SqL K H a xs := by
  rcases h with h | h
  · exact .inl (.inr h)
  · exact .inr h
mutual
inductive OW (K : PySem.W.Frag) (H : Hp) : V → D → List Addr → Prop
  | p {v : V} {t : T} : RT K H v t → OW K H v (.p t) []
  | l {a : Addr} {vs : List V} {ds : List D} {G : List Addr} : H a = some (.lst vs) → OWs K H vs ds G → OW K H (.ref a) (.l ds) (a :: G)
  | u {a : Addr} {vs : List V} {ds : List D} {G : List Addr} : SqD K H a vs → OWs K H vs ds G → OW K H (.ref a) (.u ds) G
  | ro {a : Addr} {vs : List V} {ts : List T} : SqF K H a vs → RTs K H vs ts → OW K H (.ref a) (.ro ts) []
inductive OWs (K : PySem.W.Frag) (H : Hp) : List V → List D → List Addr → Prop
  | nil : OWs K H [] [] []
  | cons {v : V} {vs : List V} {d : D} {ds : List D} {G1 G2 : List Addr} : OW K H v d G1 → OWs K H vs ds G2 → OWs K H (v :: vs) (d :: ds) (G1 ++ G2)
end

/-! ### what stays -/
def Fr (H H' : Hp) (F : List Addr) : Prop := ∀ a o, H a = some o → a ∉ F → H' a = some o
theorem Fr.refl (H : Hp) (F : List Addr) : Fr H H F := fun _ _ h _ => h
theorem Fr.mono {H H' : Hp} {F F' : List Addr} (h : Fr H H' F) (s : ∀ a ∈ F, a ∈ F') : Fr H H' F' := fun a o e n => h a o e fun z => n (s a z)
theorem Fr.trans {H H1 H2 : Hp} {F : List Addr} (h : Fr H H1 F) (h2 : Fr H1 H2 F) : Fr H H2 F := fun a o e n => h2 a o (h a o e n) n
theorem Fr.new {H : Hp} {a : Addr} {o : HO} {F : List Addr} (h : H a = none) : Fr H (upd H a o) F := fun b u e _ => by
  rw [upd_ne (ne_of_none e h)]
  exact e
/-- behind a frame: old none stays?  what is new lies where nothing lay -/
def MutO : HO → Prop
  | .lst _ => True
  | .dK _ => True
  | .dT _ => True
  | _ => False
def MutF (H : Hp) (F : List Addr) : Prop := ∀ a ∈ F, ∃ o, H a = some o ∧ MutO o
theorem MutF.nil {H : Hp} : MutF H [] := fun _ h => by cases h
theorem MutF.app {H : Hp} {F G : List Addr} (h : MutF H F) (h2 : MutF H G) : MutF H (F ++ G) := fun a ha => (List.mem_append.mp ha).elim (h a) (h2 a)
theorem MutF.sub {H : Hp} {F G : List Addr} (h : MutF H F) (s : ∀ a ∈ G, a ∈ F) : MutF H G := fun a ha => h a (s a ha)
theorem MutF.frz {H : Hp} {F : List Addr} (h : MutF H F) {a : Addr} {ob : Obj} {u : HO} (e : H a = some (.frz ob u)) : a ∉ F := fun z => by
  obtain ⟨o, e2, m⟩ := h a z
  rw [e] at e2; cases e2; exact m
theorem Fr.sqD {K : PySem.W.Frag} {H H' : Hp} {F : List Addr} (f : Fr H H' F) (m : MutF H F) {a : Addr} {xs : List V} (h : SqD K H a xs) : SqD K H' a xs := by
  rcases h with ⟨o, h, hd⟩ | h
  · exact .inl ⟨o, f _ _ h (m.frz h), hd⟩
  · exact .inr h
theorem Fr.sqF {K : PySem.W.Frag} {H H' : Hp} {F : List Addr} (f : Fr H H' F) (m : MutF H F) {a : Addr} {xs : List V} (h : SqF K H a xs) : SqF K H' a xs := by
  rcases h with ⟨o, h⟩ | h
  · exact .inl ⟨o, f _ _ h (m.frz h)⟩
  · exact .inr h
mutual
theorem RT.fr {K : PySem.W.Frag} {H H' : Hp} {F : List Addr} (f : Fr H H' F) (m : MutF H F) : ∀ {v : V} {t : T}, RT K H v t → RT K H' v t
  | _, _, .non => .non
  | _, _, .bl b => .bl b
  | _, _, .int i => .int i
  | _, _, .str x => .str x
  | _, _, .tup h hs => .tup (f.sqD m h) (RTs.fr f m hs)
theorem RTs.fr {K : PySem.W.Frag} {H H' : Hp} {F : List Addr} (f : Fr H H' F) (m : MutF H F) : ∀ {vs : List V} {ts : List T}, RTs K H vs ts → RTs K H' vs ts
  | _, _, .nil => .nil
  | _, _, .cons h hs => .cons (RT.fr f m h) (RTs.fr f m hs)
end
mutual
theorem OW.fr {K : PySem.W.Frag} {H H' : Hp} {F : List Addr} (f : Fr H H' F) (m : MutF H F) : ∀ {v : V} {d : D} {G : List Addr}, OW K H v d G → (∀ a ∈ G, a ∉ F) → OW K H' v d G
  | _, _, _, .p h, _ => .p (h.fr f m)
  | _, _, _, .l h hs, n => .l (f _ _ h (n _ List.mem_cons_self)) (OWs.fr f m hs fun a ha => n a (List.mem_cons_of_mem _ ha))
  | _, _, _, .u h hs, n => .u (f.sqD m h) (OWs.fr f m hs n)
  | _, _, _, .ro h hs, _ => .ro (f.sqF m h) (RTs.fr f m hs)
theorem OWs.fr {K : PySem.W.Frag} {H H' : Hp} {F : List Addr} (f : Fr H H' F) (m : MutF H F) : ∀ {vs : List V} {ds : List D} {G : List Addr}, OWs K H vs ds G → (∀ a ∈ G, a ∉ F) → OWs K H' vs ds G
  | _, _, _, .nil, _ => .nil
  | _, _, _, .cons h hs, n => .cons (OW.fr f m h fun a ha => n a (List.mem_append_left _ ha)) (OWs.fr f m hs fun a ha => n a (List.mem_append_right _ ha))
end
mutual
theorem OW.mt {K : PySem.W.Frag} {H : Hp} : ∀ {v : V} {d : D} {G : List Addr}, OW K H v d G → MutF H G
  | _, _, _, .p _ => .nil
  | _, _, _, .l h hs => fun a ha => by
    rcases List.mem_cons.mp ha with rfl | ha
    · exact ⟨_, h, trivial⟩
    · exact OWs.mt hs a ha
  | _, _, _, .u _ hs => OWs.mt hs
  | _, _, _, .ro _ _ => .nil
theorem OWs.mt {K : PySem.W.Frag} {H : Hp} : ∀ {vs : List V} {ds : List D} {G : List Addr}, OWs K H vs ds G → MutF H G
  | _, _, _, .nil => .nil
  | _, _, _, .cons h hs => (OW.mt h).app (OWs.mt hs)
end
theorem MutF.ne {H : Hp} {F : List Addr} (h : MutF H F) {a : Addr} (e : H a = none) : a ∉ F := fun z => by
  obtain ⟨o, e2, _⟩ := h a z
  rw [e] at e2; cases e2
theorem OWs.len {K : PySem.W.Frag} {H : Hp} : ∀ {vs : List V} {ds : List D} {G : List Addr}, OWs K H vs ds G → vs.length = ds.length
  | _, _, _, .nil => rfl
  | _, _, _, .cons _ hs => congrArg (· + 1) (OWs.len hs)
theorem RTs.len {K : PySem.W.Frag} {H : Hp} : ∀ {vs : List V} {ts : List T}, RTs K H vs ts → vs.length = ts.length
  | _, _, .nil => rfl
  | _, _, .cons _ hs => congrArg (· + 1) (RTs.len hs)
theorem RTs.get {K : PySem.W.Frag} {H : Hp} : ∀ {vs : List V} {ts : List T} {i : Nat} {t : T}, RTs K H vs ts → ts[i]? = some t → ∃ v, vs[i]? = some v ∧ RT K H v t
  | _, _, _, _, .nil, e => by simp at e
  | _, _, 0, _, .cons h _, e => by simp at e; subst e; exact ⟨_, rfl, h⟩
  | _, _, i + 1, _, .cons _ hs, e => by
    obtain ⟨v, h1, h2⟩ := RTs.get (i := i) hs (by simpa using e)
    exact ⟨v, by simpa using h1, h2⟩
theorem OWs.get {K : PySem.W.Frag} {H : Hp} : ∀ {vs : List V} {ds : List D} {G : List Addr} {i : Nat} {d : D}, OWs K H vs ds G → ds[i]? = some d → ∃ v G', vs[i]? = some v ∧ OW K H v d G' ∧ ∀ a ∈ G', a ∈ G
  | _, _, _, _, _, .nil, e => by simp at e
  | _, _, _, 0, _, .cons h _, e => by simp at e; subst e; exact ⟨_, _, rfl, h, fun a ha => List.mem_append_left _ ha⟩
  | _, _, _, i + 1, _, .cons _ hs, e => by
    obtain ⟨v, G', h1, h2, h3⟩ := OWs.get (i := i) hs (by simpa using e)
    exact ⟨v, G', by simpa using h1, h2, fun a ha => List.mem_append_right _ (h3 a ha)⟩
theorem RTs.app {K : PySem.W.Frag} {H : Hp} : ∀ {vs ws : List V} {ts us : List T}, RTs K H vs ts → RTs K H ws us → RTs K H (vs ++ ws) (ts ++ us)
  | _, _, _, _, .nil, h => h
  | _, _, _, _, .cons h hs, h2 => .cons h (RTs.app hs h2)
theorem OWs.app {K : PySem.W.Frag} {H : Hp} : ∀ {vs ws : List V} {ts us : List D} {G G' : List Addr}, OWs K H vs ts G → OWs K H ws us G' → OWs K H (vs ++ ws) (ts ++ us) (G ++ G')
  | _, _, _, _, _, _, .nil, h => h
  | _, _, _, _, _, _, .cons h hs, h2 => by
    rw [List.append_assoc]
    exact .cons h (OWs.app hs h2)
/-- a list of pure items -/
def pures : List D → Option (List T)
  | [] => some []
  | .p t :: r => (pures r).map (t :: ·)
  | _ :: _ => none
theorem pures_map (ts : List T) : pures (ts.map D.p) = some ts := by
  induction ts with
  | nil => rfl
  | cons t r ih => simp [pures, ih]
theorem pures_eq : ∀ {ds : List D} {ts : List T}, pures ds = some ts → ds = ts.map D.p
  | [], ts, h => by cases h; rfl
  | .p t :: r, ts, h => by
    unfold pures at h
    cases e : pures r with
    | none => rw [e] at h; cases h
    | some us => rw [e] at h; cases h; rw [pures_eq e]; rfl
  | .l _ :: _, _, h => by cases h
  | .u _ :: _, _, h => by cases h
  | .ro _ :: _, _, h => by cases h
  | .c _ _ :: _, _, h => by cases h
theorem OWs.pure {K : PySem.W.Frag} {H : Hp} : ∀ {vs : List V} {ts : List T}, RTs K H vs ts → OWs K H vs (ts.map D.p) []
  | _, _, .nil => .nil
  | _, _, .cons h hs => .cons (G1 := []) (G2 := []) (.p h) (OWs.pure hs)
theorem OWs.rts {K : PySem.W.Frag} {H : Hp} : ∀ {vs : List V} {ts : List T} {G : List Addr}, OWs K H vs (ts.map D.p) G → RTs K H vs ts ∧ G = []
  | _, [], _, .nil => ⟨.nil, rfl⟩
  | _, t :: ts, _, .cons h hs => by
    obtain ⟨h1, h2⟩ := OWs.rts (ts := ts) hs
    cases h with
    | p h => exact ⟨.cons h h1, by simp [h2]⟩
/-- no address twice -/
def ND (F : List Addr) : Prop := ∀ a : Nat, List.count (α := Nat) a F ≤ 1
def Sb (F G : List Addr) : Prop := ∀ a : Nat, List.count (α := Nat) a F ≤ List.count (α := Nat) a G
theorem ND.nil : ND [] := fun a => by simp
theorem ND.one (b : Nat) : ND [b] := fun a => by
  rw [List.count_singleton]
  split <;> omega
theorem ND.sb {F G : List Addr} (h : ND G) (s : Sb F G) : ND F := fun a => Nat.le_trans (s a) (h a)
theorem Sb.refl (F : List Addr) : Sb F F := fun _ => Nat.le_refl _
theorem Sb.trans {F G I : List Addr} (h : Sb F G) (k : Sb G I) : Sb F I := fun a => Nat.le_trans (h a) (k a)
theorem mem_ct {a : Nat} {F : List Nat} : a ∈ F ↔ 0 < List.count (α := Nat) a F := List.count_pos_iff.symm
theorem Sb.mem {F G : List Addr} (s : Sb F G) {a : Addr} (h : a ∈ F) : a ∈ G := mem_ct.mpr (Nat.lt_of_lt_of_le (mem_ct.mp h) (s a))
theorem ct_app (a : Nat) (F G : List Nat) : List.count (α := Nat) a (F ++ G) = List.count a F + List.count a G := List.count_append
theorem ND.apart {F G : List Addr} (h : ND (F ++ G)) {a : Addr} (ha : a ∈ F) : a ∉ G := fun hb => by
  have h1 := h a
  rw [ct_app] at h1
  have h2 := mem_ct.mp ha
  have h3 := mem_ct.mp hb
  have h2' : 0 < List.count (α := Nat) a F := h2
  have h3' : 0 < List.count (α := Nat) a G := h3
  omega
end PF

set_option Elab.async false
set_option linter.all false
set_option maxRecDepth 100000
/-! PF2: the interpreter over trees -/
namespace PF
open PySem PySem.Spec PyProof.Rows L2

/-- the longest list -/
def LIM : Nat := 16777216

inductive Op where
  | add | sub | mul | fdiv | mod | pow | neg | shl | shr | band | bor | bxor
  | eq | ne | lt | le | gt | ge | is | isn | inn | nin
  | len | isi (n : String) | all | any | sum | max1 | min1 | max2 | min2 | max3 | min3 | rev | isi2 (n m : String) | abs | int | str | tuple | list | lrng1 | lrng2 | trng1 | trng2 | sorted | index | count | slice (lo hi : Bool) | item
  deriving DecidableEq

/-! ### equality -/
mutual
def eqT : T → T → Bool
  | .non, .non => true
  | .bl a, .bl b => a == b
  | .bl a, .int j => (if a then 1 else 0) == j
  | .int i, .bl b => i == (if b then 1 else 0)
  | .int i, .int j => i == j
  | .str x, .str y => x == y
  | .tup xs, .tup ys => eqTs xs ys
  | _, _ => false
def eqTs : List T → List T → Bool
  | [], [] => true
  | x :: xs, y :: ys => eqT x y && eqTs xs ys
  | _, _ => false
end
/-- nested at most so deep -/
def okT : Nat → T → Bool
  | 0, _ => false
  | n + 1, .tup xs => xs.all (okT n)
  | _ + 1, _ => true
/-! ### order -/
mutual
/-- can be compared, place by place -/
def alT : T → T → Bool
  | .bl _, .bl _ => true
  | .int _, .int _ => true
  | .str _, .str _ => true
  | .tup xs, .tup ys => alTs xs ys
  | _, _ => false
def alTs : List T → List T → Bool
  | x :: xs, y :: ys => alT x y && alTs xs ys
  | [], _ => true
  | _ :: _, [] => true
end
mutual
def ltT : T → T → Bool
  | .bl a, .bl b => !a && b
  | .int i, .int j => decide (i < j)
  | .str x, .str y => decide (x.cps.toList < y.cps.toList)
  | .tup xs, .tup ys => ltTs xs ys
  | _, _ => false
def ltTs : List T → List T → Bool
  | [], _ :: _ => true
  | x :: xs, y :: ys => if eqT x y then ltTs xs ys else ltT x y
  | _, [] => false
end
def allAl (ts : List T) : Bool := ts.all fun x => ts.all fun y => alT x y
def neT : T → Bool
  | .tup (_ :: _) => true
  | _ => false
def flatT : T → Bool
  | .tup _ => false
  | .non => false
  | _ => true
def bestT (b : T → T → Bool) : List T → Option T
  | [] => none
  | x :: r => some (r.foldl (fun a y => if b y a then y else a) x)
mutual
def toPy : T → PyData
  | .non => .none | .bl b => .bool b | .int i => .int i | .str x => .str x | .tup xs => .tuple (toPys xs)
def toPys : List T → List PyData
  | [] => []
  | t :: r => toPy t :: toPys r
end
def sortT (ts : List T) : List T := ts.mergeSort (PySem.W.dataLe false toPy)
/-- a list's items: any list, pure items -/
def items : D → Option (List T)
  | .l ds => pures ds
  | .ro ts => some ts
  | _ => none
/-- a list's or a tuple's -/
def seqT : D → Option (List T)
  | .p (.tup ts) => some ts
  | d => items d
def okD : D → Bool
  | .p t => okT 32 t
  | d => match items d with
    | some ts => ts.all (okT 31)
    | none => false
def eqD : D → D → Option Bool
  | .p a, .p b => if okT 32 a || okT 32 b then some (eqT a b) else none
  | .p a, d => if okT 32 a || okD d then (items d).map fun _ => false else none
  | d, .p a => if okD d || okT 32 a then (items d).map fun _ => false else none
  | d, e => if okD d || okD e then (match items d, items e with
    | some xs, some ys => some (eqTs xs ys)
    | _, _ => none) else none

def I (i : Int) : D := .p (.int i)
def B (b : Bool) : D := .p (.bl b)
def intsOf : List T → Option (List Int)
  | [] => some []
  | .int i :: r => (intsOf r).map (i :: ·)
  | _ :: _ => none
def blsOf : List T → Option (List Bool)
  | [] => some []
  | .bl i :: r => (blsOf r).map (i :: ·)
  | _ :: _ => none
def L (ts : List T) : D := .l (ts.map D.p)

def addD : List D → Option D
  | [.p (.int a), .p (.int b)] => some (I (a + b))
  | [.p (.tup a), .p (.tup b)] => if a.length + b.length ≤ LIM then some (.p (.tup (a ++ b))) else none
  | [.p (.str a), .p (.str b)] => if a.length + b.length ≤ LIM then some (.p (.str (a ++ b))) else none
  | [.l a, .l b] => match pures a, pures b with
    | some xs, some ys => if xs.length + ys.length ≤ LIM then some (L (xs ++ ys)) else none
    | _, _ => none
  | _ => none
def subD : List D → Option D
  | [.p (.int a), .p (.int b)] => some (I (a - b))
  | _ => none
def big64 (a : Int) : Bool := decide (-(2 ^ 64) < a) && decide (a < 2 ^ 64)
def mulD : List D → Option D
  | [.p (.int a), .p (.int b)] => if big64 a || big64 b then some (I (a * b)) else none
  | [.l xs, .p (.int k)] => match pures xs with
    | some ts => if decide (-(2 ^ 63) ≤ k) && decide (k < 2 ^ 63) && decide (ts.length * k.toNat ≤ LIM) then some (L (List.replicate k.toNat ts).flatten) else none
    | none => none
  | _ => none
def fdivD : List D → Option D
  | [.p (.int a), .p (.int b)] => if decide (0 < b) && decide (b.natAbs.log2 < 9000) then some (I (a / b)) else none
  | _ => none
def modD : List D → Option D
  | [.p (.int a), .p (.int b)] => if decide (0 < b) then some (I (a % b)) else none
  | _ => none
def powC (i j : Int) : Bool := decide (0 ≤ j) && decide (j ≤ 1000000) && decide (i.natAbs < 2 ^ 64)
def powD : List D → Option D
  | [.p (.int a), .p (.int b)] => if powC a b then some (I (a ^ b.toNat)) else none
  | _ => none
def shlD : List D → Option D
  | [.p (.int a), .p (.int b)] => if powC a b then some (I (a * 2 ^ b.toNat)) else none
  | _ => none
def shrD : List D → Option D
  | [.p (.int a), .p (.int b)] => if decide (0 ≤ b) then some (I (a / 2 ^ b.toNat)) else none
  | _ => none
def bitD (f : Int → Int → Int) : List D → Option D
  | [.p (.int a), .p (.int b)] => some (I (f a b))
  | _ => none
def negD : List D → Option D
  | [.p (.int a)] => some (I (-a))
  | _ => none
def cmpD (f : Int → Int → Bool) (g : T → T → Bool) : List D → Option D
  | [.p (.int a), .p (.int b)] => some (B (f a b))
  | [.p (.tup a), .p (.tup b)] => if alTs a b && okT 32 (.tup a) then some (B (g (.tup a) (.tup b))) else none
  | _ => none
def isD (neg : Bool) : List D → Option D
  | [.p (.bl a), .p (.bl b)] => some (B (if neg then !decide (a = b) else decide (a = b)))
  | [.p .non, .p .non] => some (B (!neg))
  | [_, .p .non] => some (B neg)
  | _ => none
def inD (neg : Bool) : List D → Option D
  | [.p t, d] => match seqT d with
    | some ts => if okT 31 t then some (B (if neg then !ts.any (fun z => eqT z t) else ts.any (fun z => eqT z t))) else none
    | none => none
  | _ => none
def lenD : List D → Option D
  | [.p (.str x)] => if x.length ≤ LIM then some (I x.length) else none
  | [.p (.tup ts)] => some (I ts.length)
  | [.l ds] => some (I ds.length)
  | [.u ds] => some (I ds.length)
  | [.ro ts] => some (I ts.length)
  | _ => none
def tyName : D → Option String
  | .p .non => some "NoneType"
  | .p (.bl _) => some "bool"
  | .p (.int _) => some "int"
  | .p (.str _) => some "str"
  | .p (.tup _) => some "tuple"
  | .u _ => some "tuple"
  | .l _ => some "list"
  | .ro _ => some "list"
  | .c _ _ => some "dict"
/-- isinstance(x, n) for the built-in classes of which one speaks -/
def isiB (t n : String) : Option Bool := if n = "int" ∨ n = "bool" ∨ n = "str" ∨ n = "tuple" ∨ n = "list" ∨ n = "dict" then some (t = n ∨ (t = "bool" ∧ n = "int")) else none
def isiD (n : String) : List D → Option D
  | [d] => match tyName d with
    | some t => (isiB t n).map B
    | none => none
  | _ => none
def allD (f : List Bool → Bool) : List D → Option D
  | [d] => match items d with
    | some ts => (blsOf ts).map fun bs => B (f bs)
    | none => none
  | _ => none
def sumD : List D → Option D
  | [d] => match items d with
    | some ts => (intsOf ts).map fun bs => I bs.sum
    | none => none
  | _ => none
def mxD (b : T → T → Bool) : List D → Option D
  | [d] => match seqT d with
    | some ts => if allAl ts && ts.all (okT 31) then (bestT b ts).map .p else none
    | none => none
  | _ => none
def max2D : List D → Option D
  | [.p (.int a), .p (.int b)] => some (I (if b > a then b else a))
  | _ => none
def min2D : List D → Option D
  | [.p (.int a), .p (.int b)] => some (I (if b < a then b else a))
  | _ => none
def absD : List D → Option D
  | [.p (.int a)] => some (I (if a < 0 then -a else a))
  | _ => none
def intD : List D → Option D
  | [.p (.int a)] => some (I a)
  | [.p (.bl b)] => some (I (if b then 1 else 0))
  | _ => none
def strD : List D → Option D
  | [.p (.int a)] => if a.natAbs.log2 < 1920 then some (.p (.str (toString a))) else none
  | _ => none
def tupleD : List D → Option D
  | [d] => (seqT d).map fun ts => .p (.tup ts)
  | _ => none
def listD : List D → Option D
  | [d] => (seqT d).map fun ts => L ts
  | _ => none
def rngL (a b : Int) : List T := (List.range (b - a).toNat).map fun (i : Nat) => T.int (a + i)
def rngOk (a b : Int) : Bool := decide (-(2 ^ 62) ≤ a) && decide (a < 2 ^ 62) && decide (-(2 ^ 62) ≤ b) && decide (b < 2 ^ 62)
def lrng1D : List D → Option D
  | [.p (.int b)] => if rngOk 0 b && decide (b.toNat ≤ LIM) then some (L (rngL 0 b)) else none
  | _ => none
def lrng2D : List D → Option D
  | [.p (.int a), .p (.int b)] => if rngOk a b && decide ((b - a).toNat ≤ LIM) then some (L (rngL a b)) else none
  | _ => none
def trng1D : List D → Option D
  | [.p (.int b)] => if rngOk 0 b && decide (b.toNat ≤ LIM) then some (.p (.tup (rngL 0 b))) else none
  | _ => none
def trng2D : List D → Option D
  | [.p (.int a), .p (.int b)] => if rngOk a b && decide ((b - a).toNat ≤ LIM) then some (.p (.tup (rngL a b))) else none
  | _ => none
/-- sorted, by insertion -/
def insI (x : Int) : List Int → List Int
  | [] => [x]
  | y :: r => if x ≤ y then x :: y :: r else y :: insI x r
def sortI : List Int → List Int
  | [] => []
  | x :: r => insI x (sortI r)
def sortedD : List D → Option D
  | [d] => match seqT d with
    | some ts => match intsOf ts with
      | some is => some (L ((sortI is).map T.int))
      | none => if ts.length ≤ 1 then some (L ts) else match items d with
        | some _ => if allAl ts && ts.all (okT 30) && (ts.all neT || ts.all flatT) then some (L (sortT ts)) else none
        | none => none
    | none => none
  | _ => none
def revD : List D → Option D
  | [.p (.tup ts)] => some (.p (.tup ts.reverse))
  | [d] => (items d).map fun ts => L ts.reverse
  | _ => none
def max3D : List D → Option D
  | [.p (.int a), .p (.int b), .p (.int c)] => some (I (max (max a b) c))
  | _ => none
def min3D : List D → Option D
  | [.p (.int a), .p (.int b), .p (.int c)] => some (I (min (min a b) c))
  | _ => none
def isi2D (n m : String) (ds : List D) : Option D := match isiD n ds, isiD m ds with
  | some (.p (.bl a)), some (.p (.bl b)) => some (B (a || b))
  | _, _ => none
def idxT (t : T) : List T → Option Nat
  | [] => none
  | x :: r => if eqT x t then some 0 else (idxT t r).map (· + 1)
def indexD : List D → Option D
  | [d, .p t] => match seqT d with
    | some ts => if okT 31 t then (idxT t ts).map fun (k : Nat) => I k else none
    | none => none
  | _ => none
def countD : List D → Option D
  | [d, .p t] => match seqT d with
    | some ts => if okT 31 t then some (I (ts.countP fun z => eqT z t)) else none
    | none => none
  | _ => none
def cutT {α : Type} (xs : List α) (lo hi : Option Int) : List α := (xs.drop (HT.sIx xs.length 0 lo)).take (HT.sIx xs.length xs.length hi - HT.sIx xs.length 0 lo)
def sliceV (d : D) (lo hi : Option Int) : Option D := match d with
  | .p (.tup ts) => some (.p (.tup (cutT ts lo hi)))
  | d => (items d).map fun ts => L (cutT ts lo hi)
def sliceD : Bool → Bool → List D → Option D
  | false, false, [d] => sliceV d none none
  | true, false, [d, .p (.int a)] => sliceV d (some a) none
  | false, true, [d, .p (.int a)] => sliceV d none (some a)
  | true, true, [d, .p (.int a), .p (.int b)] => sliceV d (some a) (some b)
  | _, _, _ => none
/-- an item of a pure sequence -/
def itemD : List D → Option D
  | [.p (.tup ts), .p (.int i)] => (atI ts i).map D.p
  | [.p (.str x), .p (.int i)] => if x.length ≤ LIM then (atI x.cps.toList i).map fun c => .p (.str ⟨#[c]⟩) else none
  | [.l ds, .p (.int i)] => match atI ds i with
    | some (.p t) => some (.p t)
    | _ => none
  | [.ro ts, .p (.int i)] => (atI ts i).map D.p
  | _ => none
def eqOp (neg : Bool) : List D → Option D
  | [a, b] => (eqD a b).map fun k => B (if neg then !k else k)
  | _ => none
def opD : Op → List D → Option D
  | .add => addD | .sub => subD | .mul => mulD | .fdiv => fdivD | .mod => modD | .pow => powD | .neg => negD | .shl => shlD | .shr => shrD
  | .band => bitD Builtin.bitAnd | .bor => bitD Builtin.bitOr | .bxor => bitD Builtin.bitXor
  | .eq => eqOp false | .ne => eqOp true
  | .lt => cmpD (fun i j => decide (i < j)) ltT | .le => cmpD (fun i j => decide (i ≤ j)) (fun t u => !ltT u t) | .gt => cmpD (fun i j => decide (j < i)) (fun t u => ltT u t) | .ge => cmpD (fun i j => decide (j ≤ i)) fun t u => !ltT t u
  | .is => isD false | .isn => isD true | .inn => inD false | .nin => inD true
  | .len => lenD | .isi n => isiD n | .all => allD (·.all id) | .any => allD (·.any id) | .sum => sumD | .max1 => mxD (fun y a => ltT a y) | .min1 => mxD ltT | .rev => revD | .max3 => max3D | .min3 => min3D | .isi2 n m => isi2D n m
  | .max2 => max2D | .min2 => min2D | .abs => absD | .int => intD | .str => strD | .tuple => tupleD | .list => listD | .lrng1 => lrng1D | .lrng2 => lrng2D | .trng1 => trng1D | .trng2 => trng2D
  | .sorted => sortedD | .index => indexD | .count => countD | .slice a b => sliceD a b | .item => itemD

/-! ### expressions -/
inductive Tg where
  | one (i : Nat) | many (is : List Nat)
  deriving DecidableEq
def Tg.own : Tg → List Nat
  | .one i => [i]
  | .many is => is
inductive Ex where
  | nm (i : Nat)
  | cst (t : T)
  | op (o : Op) (es : List Ex)
  | idx (a i : Ex)
  | mth (o : Op) (a e : Ex)
  | slc (a l h : Ex)
  | tup (es : List Ex)
  | lst (es : List Ex)
  | and_ (a b : Ex)
  | or_ (a b : Ex)
  | not_ (a : Ex)
  | ifx (c a b : Ex)
  | chain (o1 o2 : Op) (a b c : Ex)
  | comp (elt : Ex) (tg : Tg) (kind : Nat) (src : List Ex) (conds : List Ex)
  | call (k : Nat) (es : List Ex)
/-- a place for a value -/
inductive S where
  | no | val (d : D) | bor (d : D)
/-- what an expression comes to: a value of nobody's; the list of a name; a list that is lent -/
inductive R where
  | rv (d : D) | nm (i : Nat) | bv (d : D)
abbrev CT := List D → Option (D × List (Option D))

def look : List S → Nat → S
  | [], _ => .no
  | s :: _, 0 => s
  | _ :: r, i + 1 => look r i
def put : List S → Nat → S → List S
  | [], _, _ => []
  | _ :: r, 0, s => s :: r
  | x :: r, i + 1, s => x :: put r i s
def kill (ρ : List S) : List Nat → List S
  | [] => ρ
  | i :: r => put (kill ρ r) i .no
/-- the value that a result speaks of -/
def valR (ρ : List S) : R → Option D
  | .rv d => some d
  | .bv d => some d
  | .nm i => match look ρ i with
    | .val d => some d
    | _ => none
def vals (ρ : List S) : List R → Option (List D)
  | [] => some []
  | r :: rs => match valR ρ r, vals ρ rs with
    | some d, some ds => some (d :: ds)
    | _, _ => none
/-- taken over -/
def own (q : Bool) (ρ : List S) : R → Option (D × List S)
  | .rv d => some (d, ρ)
  | .nm i => if q then none else match look ρ i with
    | .val d => some (d, put ρ i .no)
    | _ => none
  | .bv _ => none
/-- values taken over, from the left -/
def ownL (q : Bool) : List S → List R → Option (List D × List S)
  | ρ, [] => some ([], ρ)
  | ρ, r :: rs => match own q ρ r with
    | some (d, ρ1) => match ownL q ρ1 rs with
      | some (ds, ρ2) => some (d :: ds, ρ2)
      | none => none
    | none => none
def truD : D → Option Bool
  | .p .non => some false
  | .p (.bl b) => some b
  | .p (.int i) => some (i != 0)
  | .p (.str x) => if x.length ≤ LIM then some ((x.length : Int) != 0) else none
  | .p (.tup ts) => some (!ts.isEmpty)
  | .l ds => some (!ds.isEmpty)
  | .u ds => some (!ds.isEmpty)
  | .ro ts => some (!ts.isEmpty)
  | .c _ _ => none
def truR (ρ : List S) (r : R) : Option Bool := (valR ρ r).bind truD
/-- both lists, or both tuples -/
def sameK : D → D → Bool
  | .p (.tup _), .p (.tup _) => true
  | .l _, .l _ => true
  | .ro _, .ro _ => true
  | _, _ => false
def lent : R → Bool
  | .bv _ => true
  | _ => false
/-- a tuple of values: pure, or not -/
def mkTup (ds : List D) : D := match pures ds with
  | some ts => .p (.tup ts)
  | none => .u ds
def unpk : D → Option (List D)
  | .p (.tup ts) => some (ts.map D.p)
  | .u ds => some ds
  | _ => none
def putAll : List S → List Nat → List S → Option (List S)
  | ρ, [], [] => some ρ
  | ρ, i :: is, d :: ds => putAll (put ρ i d) is ds
  | _, _, _ => none
def bind (b : Bool) (tg : Tg) (d : D) (ρ : List S) : Option (List S) :=
  match tg with
  | .one i => some (put ρ i (if b then .bor d else .val d))
  | .many is => match unpk d with
    | some ds => putAll ρ is (ds.map fun d => if b then .bor d else .val d)
    | none => none
/-- a pure sequence that is walked: fixed, or the list of a name, which may turn -/
inductive Sq where
  | fix (ts : List T) | live (r n : Nat)
/-- a name's list at turn i: as long as at first -/
def liveAt (ρ : List S) (r n i : Nat) : Option D :=
  match look ρ r with
  | .val (.l ds) => if ds.length = n then ds[i]? else none
  | _ => none
def Sq.len : Sq → Nat
  | .fix ts => ts.length
  | .live _ n => n
def Sq.at (ρ : List S) (i : Nat) : Sq → Option T
  | .fix ts => ts[i]?
  | .live r n => match liveAt ρ r n i with
    | some (.p t) => some t
    | _ => none
def Sq.ok (ρ : List S) : Sq → Bool
  | .fix _ => true
  | .live r n => match look ρ r with
    | .val (.l ds) => decide (ds.length = n)
    | _ => false
def sqOf (ρ : List S) : R → Option Sq
  | .rv (.p (.tup ts)) => some (.fix ts)
  | .rv (.ro ts) => some (.fix ts)
  | .rv (.l ds) => (pures ds).map .fix
  | .nm i => match look ρ i with
    | .val (.ro ts) => some (.fix ts)
    | .val (.l ds) => (pures ds).map fun _ => .live i ds.length
    | _ => none
  | _ => none
/-- how a walk's items come: the thing itself, numbered, in pairs; a range; lent things -/
inductive Wk where
  | one (a : Sq) | enum (a : Sq) | zip (a b : Sq) | rng (lo : Int) (n : Nat) | lent (ds : List D)
def Wk.len : Wk → Nat
  | .one a => a.len
  | .enum a => a.len
  | .zip a b => min a.len b.len
  | .rng _ n => n
  | .lent ds => ds.length
def Wk.ok (ρ : List S) : Wk → Bool
  | .one a => a.ok ρ
  | .enum a => a.ok ρ
  | .zip a b => a.ok ρ && b.ok ρ
  | .rng _ _ => true
  | .lent _ => true
def Wk.at (ρ : List S) (i : Nat) : Wk → Option D
  | .one a => (a.at ρ i).map .p
  | .enum a => (a.at ρ i).map fun t => .p (.tup [.int i, t])
  | .zip a b => match a.at ρ i, b.at ρ i with
    | some t, some u => if a.ok ρ && b.ok ρ then some (.p (.tup [t, u])) else none
    | _, _ => none
  | .rng lo n => if i < n then some (I (lo + i)) else none
  | .lent ds => ds[i]?
def Wk.isLent : Wk → Bool
  | .lent _ => true
  | _ => false
/-- the names whose lists are walked -/
def Sq.lives : Sq → List Nat
  | .fix _ => []
  | .live r _ => [r]
def Wk.lives : Wk → List Nat
  | .one a => a.lives
  | .enum a => a.lives
  | .zip a b => a.lives ++ b.lives
  | _ => []
def rngS (a b : Int) : Option Wk := if rngOk a b then some (.rng a (b - a).toNat) else none
/-- a list of things that are not pure -/
def srcL (ρ : List S) : R → Option Wk
  | .rv (.l ds) => some (.lent ds)
  | .nm i => match look ρ i with
    | .val (.l ds) => some (.lent ds)
    | _ => none
  | .bv (.l ds) => some (.lent ds)
  | _ => none
/-- kinds: 0 the thing itself; 1 range(b); 2 range(a, b); 3 enumerate(x); 4 zip(x, y) -/
def srcK (ρ : List S) : Nat → List R → Option Wk
  | 0, [r] => match sqOf ρ r with
    | some a => some (.one a)
    | none => srcL ρ r
  | 1, [r] => match valR ρ r with
    | some (.p (.int b)) => rngS 0 b
    | _ => none
  | 2, [r, s] => match valR ρ r, valR ρ s with
    | some (.p (.int a)), some (.p (.int b)) => rngS a b
    | _, _ => none
  | 3, [r] => (sqOf ρ r).map fun a => .enum a
  | 4, [r, s] => match sqOf ρ r, sqOf ρ s with
    | some a, some b => some (.zip a b)
    | _, _ => none
  | _, _ => none
def walkN {α : Type} (st : α → List S) (w : Wk) (f : D → α → Option α) : Nat → α → Option α
  | 0, a => if w.ok (st a) then some a else none
  | k + 1, a => match w.at (st a) (w.len - (k + 1)) with
    | some d => match f d a with
      | some b => walkN st w f k b
      | none => none
    | none => none
/-- a call: what comes back to the names -/
def back : List S → List R → List (Option D) → Option (List S)
  | ρ, [], _ => some ρ
  | ρ, .nm i :: rs, o :: os => back (put ρ i (match o with | some d => .val d | none => .no)) rs os
  | ρ, .rv _ :: rs, _ :: os => back ρ rs os
  | ρ, .bv _ :: rs, _ :: os => none
  | _, _ :: _, [] => none
def nms : List R → List Nat
  | [] => []
  | .nm i :: r => i :: nms r
  | _ :: r => nms r
def nodupB : List Nat → Bool
  | [] => true
  | x :: r => !r.contains x && nodupB r
def callD (q : Bool) (c : CT) (rs : List R) (ρ : List S) : Option (R × List S) :=
  match vals ρ rs with
  | none => none
  | some ds => if nodupB (nms rs) && (!q || (nms rs).isEmpty) then
      match c ds with
      | some (d, os) => (back ρ rs os).map fun ρ' => (.rv d, ρ')
      | none => none
    else none

mutual
def ev (Γ : List CT) (q : Bool) : Ex → List S → Option (R × List S)
  | .nm i, ρ => match look ρ i with
    | .val (.p t) => some (.rv (.p t), ρ)
    | .val d => some (.nm i, ρ)
    | .bor (.p t) => some (.rv (.p t), ρ)
    | .bor d => if q then some (.bv d, ρ) else none
    | .no => none
  | .cst t, ρ => some (.rv (.p t), ρ)
  | .op o es, ρ => match evL Γ q es ρ with
    | some (rs, ρ1) => match vals ρ1 rs with
      | some ds => match opD o ds with
        | some d => some (.rv d, ρ1)
        | none => none
      | none => none
    | none => none
  | .idx a i, ρ => match ev Γ q a ρ with
    | some (r, ρ1) => match ev Γ (q || lent r) i ρ1 with
      | some (ri, ρ2) => match valR ρ2 r, valR ρ2 ri with
        | some (.l ds), some (.p (.int k)) => match atI ds k with
          | some (.p t) => some (.rv (.p t), ρ2)
          | some d => match r with
            | .rv _ => none
            | _ => some (.bv d, ρ2)
          | none => none
        | some d, some e => match itemD [d, e] with
          | some x => some (.rv x, ρ2)
          | none => none
        | _, _ => none
      | none => none
    | none => none
  | .mth o a e, ρ => match ev Γ q a ρ with
    | some (r, ρ1) => match ev Γ (q || lent r) e ρ1 with
      | some (r2, ρ2) => match valR ρ1 r, valR ρ2 r, valR ρ2 r2 with
        | some d0, some d, some d2 => if sameK d0 d then (opD o [d, d2]).map fun z => (.rv z, ρ2) else none
        | _, _, _ => none
      | none => none
    | none => none
  | .slc a l h, ρ => match ev Γ q a ρ with
    | some (r, ρ1) => match ev Γ (q || lent r) l ρ1 with
      | some (r2, ρ2) => match valR ρ2 r2 with
        | some (.p (.int i)) => match ev Γ (q || lent r) h ρ2 with
          | some (r3, ρ3) => match valR ρ3 r, valR ρ3 r3 with
            | some d, some (.p (.int j)) => (sliceV d (some i) (some j)).map fun z => (.rv z, ρ3)
            | _, _ => none
          | none => none
        | _ => none
      | none => none
    | none => none
  | .tup es, ρ => match evL Γ q es ρ with
    | some (rs, ρ1) => match ownL q ρ1 rs with
      | some (ds, ρ2) => if ds.length ≤ LIM then some (.rv (mkTup ds), ρ2) else none
      | none => none
    | none => none
  | .lst es, ρ => match evL Γ q es ρ with
    | some (rs, ρ1) => match ownL q ρ1 rs with
      | some (ds, ρ2) => if ds.length ≤ LIM then some (.rv (.l ds), ρ2) else none
      | none => none
    | none => none
  | .and_ a b, ρ => match ev Γ q a ρ with
    | some (r, ρ1) => match truR ρ1 r with
      | some true => ev Γ q b ρ1
      | some false => some (r, ρ1)
      | none => none
    | none => none
  | .or_ a b, ρ => match ev Γ q a ρ with
    | some (r, ρ1) => match truR ρ1 r with
      | some true => some (r, ρ1)
      | some false => ev Γ q b ρ1
      | none => none
    | none => none
  | .not_ a, ρ => match ev Γ q a ρ with
    | some (r, ρ1) => match truR ρ1 r with
      | some k => some (.rv (B (!k)), ρ1)
      | none => none
    | none => none
  | .ifx c a b, ρ => match ev Γ q c ρ with
    | some (r, ρ1) => match truR ρ1 r with
      | some true => ev Γ q a ρ1
      | some false => ev Γ q b ρ1
      | none => none
    | none => none
  | .chain o1 o2 a b c, ρ => match ev Γ q a ρ with
    | some (ra, ρ1) => match valR ρ1 ra with
      | some (.p x) => match ev Γ q b ρ1 with
        | some (rb, ρ2) => match valR ρ2 rb with
          | some (.p y) => match opD o1 [.p x, .p y] with
            | some (.p (.bl true)) => match ev Γ q c ρ2 with
              | some (rc, ρ3) => match valR ρ3 rc with
                | some (.p z) => match opD o2 [.p y, .p z] with
                  | some d => some (.rv d, ρ3)
                  | none => none
                | _ => none
              | none => none
            | some (.p (.bl false)) => some (.rv (B false), ρ2)
            | _ => none
          | _ => none
        | none => none
      | _ => none
    | none => none
  | .comp elt tg kind src conds, ρ => match evL Γ q src ρ with
    | some (rs, ρ1) => match srcK ρ1 kind rs with
      | some w => if w.len ≤ LIM then
          match walkN Prod.snd w (fun d a => match bind w.isLent tg d (kill a.2 tg.own) with
            | some ρ2 => match evT Γ (q || w.isLent) conds ρ2 with
              | some (true, ρ3) => match ev Γ (q || w.isLent) elt ρ3 with
                | some (r, ρ4) => match own (q || w.isLent) ρ4 r with
                  | some (x, ρ5) => some (a.1 ++ [x], kill ρ5 tg.own)
                  | none => none
                | none => none
              | some (false, ρ3) => some (a.1, kill ρ3 tg.own)
              | none => none
            | none => none) w.len ([], kill ρ1 tg.own) with
          | some (ds, ρ2) => some (.rv (.l ds), ρ2)
          | none => none
        else none
      | none => none
    | none => none
  | .call k es, ρ => match evL Γ q es ρ with
    | some (rs, ρ1) => match Γ[k]? with
      | some c => callD q c rs ρ1
      | none => none
    | none => none
/-- arguments, from the left -/
def evL (Γ : List CT) (q : Bool) : List Ex → List S → Option (List R × List S)
  | [], ρ => some ([], ρ)
  | e :: es, ρ => match ev Γ q e ρ with
    | some (r, ρ1) => match evL Γ (q || lent r) es ρ1 with
      | some (rs, ρ2) => some (r :: rs, ρ2)
      | none => none
    | none => none
/-- tests: at most one -/
def evT (Γ : List CT) (q : Bool) : List Ex → List S → Option (Bool × List S)
  | [], ρ => some (true, ρ)
  | [e], ρ => match ev Γ q e ρ with
    | some (r, ρ1) => match truR ρ1 r with
      | some k => some (k, ρ1)
      | none => none
    | none => none
  | _, _ => none
end
end PF

set_option Elab.async false
set_option linter.all false
set_option maxRecDepth 100000
/-! PF3: the interpreter: statements, defs -/
namespace PF
open PySem PySem.Spec PyProof.Rows L2

inductive Tgt where
  | nm (i : Nat) | s1 (r : Nat) (i : Ex) | s2 (r : Nat) (i j : Ex)
inductive St where
  | asg (i : Nat) (e : Ex)
  | asgT (is : List Nat) (e : Ex)
  | asg1 (t : Tgt) (e : Ex)
  | asgM (ts : List Tgt) (e : Ex)
  | aug (i : Nat) (o : Op) (e : Ex)
  | app (r : Nat) (e : Ex)
  | ext (r : Nat) (e : Ex)
  | exp (e : Ex)
  | ite (c : Ex) (a b : List St)
  | for_ (tg : Tg) (kind : Nat) (src : List Ex) (body : List St) (dead : List Nat)
  | whl (c : Ex) (body : List St) (dead : List Nat)
  | ret (e : Ex)
  | retN | brk | cnt | pass | fail
inductive Out where
  | nx (ρ : List S) | rt (d : D) (ρ : List S) | bk (ρ : List S) | ct (ρ : List S)
/-- the most turns of a while -/
def FUEL : Nat := 1000000000000000000

def killO (ks : List Nat) : Out → Out
  | .nx ρ => .nx (kill ρ ks)
  | .ct ρ => .nx (kill ρ ks)
  | .bk ρ => .bk (kill ρ ks)
  | .rt d ρ => .rt d ρ
def forN (w : Wk) (f : D → List S → Option Out) : Nat → List S → Option Out
  | 0, ρ => if w.ok ρ then some (.nx ρ) else none
  | k + 1, ρ => match w.at ρ (w.len - (k + 1)) with
    | some d => match f d ρ with
      | some (.nx ρ1) => forN w f k ρ1
      | some (.bk ρ1) => some (.nx ρ1)
      | some (.rt v ρ1) => some (.rt v ρ1)
      | _ => none
    | none => none
def whW (c : List S → Option (Bool × List S)) (f : List S → Option Out) : Nat → List S → Option Out
  | 0, _ => none
  | n + 1, ρ => match c ρ with
    | some (true, ρ1) => match f ρ1 with
      | some (.nx ρ2) => whW c f n ρ2
      | some (.bk ρ2) => some (.nx ρ2)
      | some (.rt v ρ2) => some (.rt v ρ2)
      | _ => none
    | some (false, ρ1) => some (.nx ρ1)
    | none => none
/-- the names that statements store -/
def Tgt.st : Tgt → List Nat
  | .nm i => [i]
  | _ => []
mutual
def stO : St → List Nat
  | .asg i _ => [i]
  | .asgT is _ => is
  | .asg1 t _ => t.st
  | .asgM ts _ => ts.flatMap Tgt.st
  | .aug i _ _ => [i]
  | .ite _ a b => stsO a ++ stsO b
  | .for_ tg _ _ body _ => tg.own ++ stsO body
  | .whl _ body _ => stsO body
  | _ => []
def stsO : List St → List Nat
  | [] => []
  | s :: r => stO s ++ stsO r
end
/-- a value put where a target says -/
def store (Γ : List CT) (d : D) (ρ : List S) : Tgt → Option (List S)
  | .nm i => some (put ρ i (.val d))
  | .s1 r i => match ev Γ true i ρ with
    | some (ri, _) => match valR ρ ri, look ρ r with
      | some (.p (.int k)), .val (.l ds) => match ixN ds.length k with
        | some j => some (put ρ r (.val (.l (ds.set j d))))
        | none => none
      | _, _ => none
    | none => none
  | .s2 r i j => match ev Γ true i ρ with
    | some (ri, _) => match valR ρ ri with
      | some (.p (.int k)) => match look ρ r with
        | .val (.l ds) => match ixN ds.length k with
          | some m => match ds[m]? with
            | some (.l es) => match ev Γ true j ρ with
              | some (rj, _) => match valR ρ rj with
                | some (.p (.int k2)) => match ixN es.length k2 with
                  | some m2 => some (put ρ r (.val (.l (ds.set m (.l (es.set m2 d))))))
                  | none => none
                | _ => none
              | none => none
            | _ => none
          | none => none
        | _ => none
      | _ => none
    | none => none
def stores (Γ : List CT) : List S → List Tgt → List D → Option (List S)
  | ρ, [], [] => some ρ
  | ρ, t :: ts, d :: ds => match store Γ d ρ t with
    | some ρ1 => stores Γ ρ1 ts ds
    | none => none
  | _, _, _ => none
/-- an expression's value, taken over -/
def evOwn (Γ : List CT) (e : Ex) (ρ : List S) : Option (D × List S) :=
  match ev Γ false e ρ with
  | some (r, ρ1) => own false ρ1 r
  | none => none
def evTest (Γ : List CT) (e : Ex) (ρ : List S) : Option (Bool × List S) :=
  match ev Γ false e ρ with
  | some (r, ρ1) => match truR ρ1 r with
    | some k => some (k, ρ1)
    | none => none
  | none => none

mutual
def run (Γ : List CT) : St → List S → Option Out
  | .asg i e, ρ => match evOwn Γ e ρ with
    | some (d, ρ1) => some (.nx (put ρ1 i (.val d)))
    | none => none
  | .asgT is e, ρ => match evOwn Γ e ρ with
    | some (d, ρ1) => match unpk d with
      | some ds => (putAll ρ1 is (ds.map .val)).map .nx
      | none => none
    | none => none
  | .asg1 t e, ρ => match evOwn Γ e ρ with
    | some (d, ρ1) => (store Γ d ρ1 t).map .nx
    | none => none
  | .asgM ts e, ρ => match evOwn Γ e ρ with
    | some (.p (.tup us), ρ1) => (stores Γ ρ1 ts (us.map D.p)).map .nx
    | _ => none
  | .aug i o e, ρ => match look ρ i with
    | .val (.p (.int x)) => match ev Γ false e ρ with
      | some (r, ρ1) => match valR ρ1 r with
        | some (.p (.int y)) => match opD o [.p (.int x), .p (.int y)] with
          | some (.p z) => some (.nx (put ρ1 i (.val (.p z))))
          | _ => none
        | _ => none
      | none => none
    | _ => none
  | .app r e, ρ => match look ρ r with
    | .val (.l _) => match evOwn Γ e ρ with
      | some (d, ρ1) => match look ρ1 r with
        | .val (.l ds) => if ds.length < LIM then some (.nx (put ρ1 r (.val (.l (ds ++ [d]))))) else none
        | _ => none
      | none => none
    | _ => none
  | .ext r e, ρ => match look ρ r with
    | .val (.l _) => match evOwn Γ e ρ with
      | some (.l es, ρ1) => match look ρ1 r with
        | .val (.l ds) => if ds.length + es.length ≤ LIM then some (.nx (put ρ1 r (.val (.l (ds ++ es))))) else none
        | _ => none
      | _ => none
    | _ => none
  | .exp e, ρ => match ev Γ false e ρ with
    | some (_, ρ1) => some (.nx ρ1)
    | none => none
  | .ite c a b, ρ => match evTest Γ c ρ with
    | some (true, ρ1) => runs Γ a ρ1
    | some (false, ρ1) => runs Γ b ρ1
    | none => none
  | .for_ tg kind src body dead, ρ => match evL Γ false src ρ with
    | some (rs, ρ1) => match srcK ρ1 kind rs with
      | some w => if !w.isLent && w.lives.all (fun r => !(tg.own ++ stsO body).contains r) then
          forN w (fun d ρ => match bind false tg d ρ with
            | some ρ2 => (runs Γ body ρ2).map (killO dead)
            | none => none) w.len (kill ρ1 dead)
        else none
      | none => none
    | none => none
  | .whl c body dead, ρ => whW (evTest Γ c) (fun ρ => (runs Γ body ρ).map (killO dead)) FUEL (kill ρ dead)
  | .ret e, ρ => match evOwn Γ e ρ with
    | some (d, ρ1) => some (.rt d ρ1)
    | none => none
  | .retN, ρ => some (.rt (.p .non) ρ)
  | .brk, ρ => some (.bk ρ)
  | .cnt, ρ => some (.ct ρ)
  | .pass, ρ => some (.nx ρ)
  | .fail, _ => none
def runs (Γ : List CT) : List St → List S → Option Out
  | [], ρ => some (.nx ρ)
  | s :: r, ρ => match run Γ s ρ with
    | some (.nx ρ1) => runs Γ r ρ1
    | o => o
end
def isP : D → Bool
  | .p _ => true
  | _ => false
/-- what is left in the arguments' places, where no name was stored anew -/
def left (st : List Nat) : Nat → List D → List S → List (Option D)
  | _, [], _ => []
  | i, d :: ds, ρ => (if isP d || st.contains i then none else match look ρ i with | .val e => some e | _ => none) :: left st (i + 1) ds ρ
def startS (n : Nat) (ds : List D) : List S := ds.map S.val ++ List.replicate (n - ds.length) S.no
/-- a def of np parameters and n names in all -/
def mk (Γ : List CT) (n np : Nat) (body : List St) : CT := fun ds =>
  if ds.length = np then
    match runs Γ body (startS n ds) with
    | some (.rt d ρ) => some (d, left (stsO body) 0 ds ρ)
    | some (.nx ρ) => some (.p .non, left (stsO body) 0 ds ρ)
    | _ => none
  else none
end PF

set_option Elab.async false
set_option linter.all false
set_option maxRecDepth 100000
/-! PF4: what is walked: enumerate and zip of lists and tuples, in any mix -/
namespace PF
open PySem PySem.Spec PyProof.Rows L2

/-- a list (true) or a tuple (false) -/
def SqK (k : Bool) (K : PySem.W.Frag) (H : Hp) (a : Addr) (xs : List V) : Prop := if k = true then SqL K H a xs else SqT K H a xs
def iterK (k : Bool) (h : Heap) (it a : Addr) (i : Nat) : Prop := if k = true then h.IsListIter it a i else h.IsTupleIter it a i
theorem iterK.at {k : Bool} {h h' : Heap} {it a : Addr} {i : Nat} (x : iterK k h it a i) (e : ∀ o, h.get? it = some o → h'.get? it = some o) : iterK k h' it a i := by
  cases k with
  | true => exact PySem.Heap.IsListIter.at x e
  | false => exact PySem.Heap.IsTupleIter.at x e
theorem iterK.there {k : Bool} {h : Heap} {it a : Addr} {i : Nat} (x : iterK k h it a i) : ∃ o, h.get? it = some o ∧ ∀ v, o.data ≠ .cell v := by
  cases k with
  | true => obtain ⟨o, e, c, d⟩ := x; exact ⟨o, e, fun v z => by rw [d] at z; cases z⟩
  | false => obtain ⟨o, e, c, d⟩ := x; exact ⟨o, e, fun v z => by rw [d] at z; cases z⟩
def PlK (k : Bool) (h : Heap) (a : Addr) (its : Array Value) : Prop := if k = true then h.IsList a its else h.IsTuple a its
section
variable {X : Cx} {pins : List (Addr × Obj)} {σ : L2.St} {H : Hp} {s : Shared} {a : Addr} {xs ys : List V} {k : Bool}
theorem SqK.pl (I : Inv X pins σ H s) (h : SqK k X.K H a xs) : ∃ its : List Value, Vals xs its ∧ PlK k s.heap a its.toArray ∧ xs.length ≤ sizeLine := by
  cases k with
  | true => obtain ⟨its, r, p, z⟩ := I.list h; exact ⟨its, r, p.isList, z⟩
  | false => obtain ⟨its, r, p, z⟩ := I.tuple h; exact ⟨its, r, p, z⟩
theorem SqK.inj (I : Inv X pins σ H s) (h : SqK k X.K H a xs) (h2 : SqK k X.K H a ys) : xs = ys := by
  cases k with
  | true => exact I.list_inj h h2
  | false => exact I.tuple_inj h h2
theorem PlK.lt {h : Heap} {its : Array Value} (p : PlK k h a its) : a < h.objs.size := by
  cases k with
  | true => obtain ⟨o, e, _⟩ := p; exact Heap.lt_size e
  | false => obtain ⟨o, e, _⟩ := p; exact Heap.lt_size e
end
theorem drawK {k : Bool} {prog : Program} {w : World} {A : Around} (hh : A.handled = none) (it a : Addr) (hne : a ≠ it) (its : Array Value) :
    Draws prog w A it [it, a] its.size (fun i v => its[i]? = some v) (fun i h => iterK k h it a i ∧ PlK k h a its) := by
  cases k with
  | true => exact Draws.list hh it a hne its
  | false => exact Draws.tuple hh it a hne its
def itObj (k : Bool) (a : Addr) : Obj := if k = true then { cls := .type "list_iterator", data := .fields #[.ref a, .int 0 0] } else { cls := .type "tuple_iterator", data := .fields #[.ref a, .int 0 0] }
theorem beginsK (k : Bool) (a : Addr) (its : Array Value) : Begins (.ref a) (itObj k a) fun h => PlK k h a its := by
  cases k with
  | true => exact begins_list a its
  | false => exact begins_tuple a its
theorem iterK.start {k : Bool} {h : Heap} {it a : Addr} (e : h.get? it = some (itObj k a)) : iterK k h it a 0 := by
  cases k with
  | true => exact ⟨_, e, rfl, rfl⟩
  | false => exact ⟨_, e, rfl, rfl⟩

/-- enumerate: the sequence at a as it stands at each turn, each item in a new pair -/
def IteG (k : Bool) (K : PySem.W.Frag) (a : Addr) : It :=
  ⟨fun i H => ∃ (xs : List V) (x : V), SqK k K H a xs ∧ xs[i]? = some x, fun i H v H' => ∃ T x o, v = .ref T ∧ H T = none ∧ Obj.dict o = none ∧ H' = upd H T (.frz o (.tup [.int (i : Nat), x])) ∧ ∀ xs, SqK k K H a xs → xs[i]? = some x, fun i H => ∃ xs : List V, SqK k K H a xs ∧ xs.length = i⟩
theorem turn_enumG {P : Program} {w : World} {K : PySem.W.Frag} {elts : List Expr} {kk : Nat} {tpos : Pos} (k : Bool) (a e it : Addr) (hai : a ≠ it) (hea : e ≠ a) :
    Turn P w K (.Tuple elts kk tpos) (IteG k K a) [e, it] e (fun i h => (∃ old, IsEnum h e it ((i : Nat) : Int) old) ∧ iterK k h it a i ∧ e ≠ it) where
  mem := by simp
  obj := fun i h st b hb => by
    obtain ⟨⟨old, he⟩, hi, _⟩ := st
    have e' : b = e ∨ b = it := by simpa using hb
    rcases e' with z | z
    · rw [z]; exact ⟨_, he, fun v q => nomatch q⟩
    · rw [z]; exact hi.there
  keep := fun i h h' st k => let ⟨⟨old, he⟩, hi, hne⟩ := st; ⟨⟨old, k e (by simp) _ he⟩, hi.at fun o q => k it (by simp) o q, hne⟩
  item := by
    intro X hP hw hK hc i pins s σ H E I hf st hg
    subst hP hw hK
    obtain ⟨⟨old, he⟩, hit, hne⟩ := st
    obtain ⟨xs, x, hq, hx⟩ := hg
    obtain ⟨its, rv, p, hz⟩ := hq.pl I
    obtain ⟨u, hu, ru⟩ := rv.get hx
    have hel : e < s.heap.objs.size := Heap.lt_size he
    have hil : it < s.heap.objs.size := by obtain ⟨_, q, _⟩ := hit.there; exact Heap.lt_size q
    have hlt : i < its.length := by
      have := (List.getElem?_eq_some_iff.mp hu).1
      exact this
    refine wpAny_pyNext_enum_itemC (drawK (k := k) (A := X.A.in1) (I.ok.hd hc) it a hai its.toArray) he ⟨hit, p⟩ (by simpa using hlt) hne (by simp [hne, hea]) fun x' h' tk hP ho hs' hT hsz hk => ?_
    have ex : x' = u := by
      have hP : its.toArray[i]? = some x' := hP
      simp only [List.getElem?_toArray] at hP
      rw [hu] at hP; cases hP; rfl
    subst ex
    refine ⟨_, rfl, wpAny_letOwnedTupleGo_enum (s := { s with heap := h', toks := tk + 1 }) ho fun h'' he' sb => ?_⟩
    have hT2 : h''.get? s.heap.objs.size = some { cls := .type "tuple", data := .seq #[.int i tk, x'] } := (sb.2 _ (Nat.ne_of_gt hel)).trans hT
    have new : ObjOk X.prog X.w (upd H s.heap.objs.size (.frz { cls := .type "tuple", data := .seq #[.int i tk, x'] } (.tup [.int (i : Nat), x]))) h'' s.heap.objs.size (.frz { cls := .type "tuple", data := .seq #[.int i tk, x'] } (.tup [.int (i : Nat), x])) :=
      ⟨hT2, by show 2 ≤ sizeLine; decide, [.int i tk, x'], .cons ⟨_, rfl⟩ (.cons ru .nil), ⟨_, hT2, rfl, _, rfl⟩⟩
    have I1 : Inv X pins σ (upd H s.heap.objs.size (.frz { cls := .type "tuple", data := .seq #[.int i tk, x'] } (.tup [.int (i : Nat), x]))) { s with heap := h'', toks := tk + 1 } :=
      I.turnedNew (ch := [e, it]) (fun b ob hb q => (sb.2 b (fun z => hb (by simp [z]))).trans (hk b ob (fun z => hb (by simp [z])) (fun z => hb (by simp [z])) q)) hf (Nat.le_refl _) new
    refine ⟨.ref s.heap.objs.size, _, I1, rfl, ⟨_, x, _, rfl, I.hok.fresh (Nat.le_refl _), rfl, rfl, fun ys hy => by rw [SqK.inj I hy hq]; exact hx⟩, ⟨⟨x', ?_⟩, hs'.1.at fun o q => (sb.2 it (Ne.symm hne)).trans q, hne⟩, fun b hb => ?_⟩
    · have e1 : ((i + 1 : Nat) : Int) = (i : Int) + 1 := by omega
      rw [e1]; exact he'
    · have hb' : b < s.heap.objs.size := by
        have e' : b = e ∨ b = it := by simpa using hb
        rcases e' with z | z
        · rw [z]; exact hel
        · rw [z]; exact hil
      rw [upd_ne (Nat.ne_of_lt hb')]
      exact (hf b hb).1
  done := by
    intro X hP hw hK hc i pins s σ H E I hf st hg
    subst hP hw hK
    obtain ⟨⟨old, he⟩, hit, hne⟩ := st
    obtain ⟨xs, hq, hx⟩ := hg
    obtain ⟨its, rv, p, hz⟩ := hq.pl I
    obtain ⟨f0, f1, f2, f3, f4, f5⟩ := hf it (by simp)
    have hl : i = its.toArray.size := by rw [List.size_toArray, ← rv.length, hx]
    have st' : iterK k s.heap it a its.toArray.size ∧ PlK k s.heap a its.toArray := ⟨hl ▸ hit, p⟩
    exact wpAny_pyNext_enum_endD (drawK (k := k) (A := X.A.in1) (I.ok.hd hc) it a hai its.toArray) he st' fun h' eb => ⟨rfl, I.turned (t' := s.toks) (fun b o hb q => eb b o hb q) f0 f1 f3 f4 f5⟩
  self := fun A i s Q E st h => let ⟨⟨_, he⟩, _⟩ := st; wpAny_pyIter_enum he h
def iEnumG (K : PySem.W.Frag) (ta : TA) : TI := fun σ H R => ta σ H fun vs H1 => ∃ k a xs, vs = [.ref a] ∧ SqK k K H1 a xs ∧ R (IteG k K a) H1
theorem boot_enum' : bootBuiltins "enumerate" = some (.type "enumerate") := boot_enumerate
set_option maxHeartbeats 1000000 in
theorem meets_enum1 {v : Value} {o : Obj} {H : Heap → Prop} (B : Begins v o H) :
    Meets (Builtin.«enumerate.__new__» ⟨[.type "enumerate", v], []⟩) (fun _ R s => H s.heap ∧
      R (.ok (.ret (.ref (s.heap.push o).objs.size))) { s with heap := (s.heap.push o).push { cls := .type "enumerate", data := .fields #[.none, .bool false, .ref s.heap.objs.size, rawInt 0, .none, .none] } }) :=
  .of_wp fun prog w A R s h => by
    obtain ⟨hp, g, d, tk, os⟩ := s; obtain ⟨h1, h⟩ := h
    have hsub := sub_enumerate
    have q1 : ∀ {A' : Around} {E : Value → Shared → Prop} {Q : Value → Shared → Prop}, Q (.ref hp.objs.size) ⟨hp.push o, g, d, tk, os⟩ → wpAny (model prog w) A' (pyIter v) Q E ⟨hp, g, d, tk, os⟩ :=
      fun q => B.iter prog w _ _ ⟨hp, g, d, tk, os⟩ _ h1 q
    wp_walk using q1
    refine wpAny_stack_any fun st => wpAny_pure ?_
    split
    · rename_i c _ _ _ _ _
      cases (c == Value.type "enumerate")
      · wp_walk using q1
        exact ⟨_, rfl, h⟩
      · wp_walk using q1
        exact ⟨_, rfl, h⟩
    · wp_walk using q1
      exact ⟨_, rfl, h⟩
theorem enum1 {prog : Program} {w : World} {A : Around} {E : Value → Shared → Prop} {s : Shared} {v : Value} {o : Obj} {H : Heap → Prop} {Q : Value → Shared → Prop} (B : Begins v o H) (h1 : H s.heap)
    (h : ∀ h', IsEnum h' (s.heap.objs.size + 1) s.heap.objs.size 0 .none → h'.get? s.heap.objs.size = some o →
      (∀ b o, s.heap.get? b = some o → h'.get? b = some o) → Q (.ref (s.heap.objs.size + 1)) { s with heap := h' }) :
    wpAny (model prog w) A (call (.type "enumerate") [v]) Q E s := by
  refine callType_new F.called_enumerate (by decide) (F.typeCall_enumerate_1 _) (F.newCall_enumerate_1 _) (fun obj => F.args_object_init_2 obj _) F.entry_enumerate_new
    (meets_enum1 B) ⟨h1, ?_⟩
  have hz : (s.heap.push o).objs.size = s.heap.objs.size + 1 := Heap.size_push ..
  show _ ∧ _
  rw [hz]
  have he : IsEnum ((s.heap.push o).push { cls := .type "enumerate", data := .fields #[.none, .bool false, .ref s.heap.objs.size, rawInt 0, .none, .none] }) (s.heap.objs.size + 1) s.heap.objs.size 0 .none := by
    have := Heap.get?_push_size (s.heap.push o) (o := { cls := .type "enumerate", data := .fields #[.none, .bool false, .ref s.heap.objs.size, rawInt 0, .none, .none] }) rfl
    rw [hz] at this; exact this
  exact ⟨⟨_, he, rfl⟩, h _ he (Heap.get?_push_of_some _ (Heap.get?_push_size _ B.free)) fun b o x => Heap.get?_push_of_some _ (Heap.get?_push_of_some _ x)⟩
theorem pi_enumG {X : Cx} {e : Expr} {ta : TA} {p pos tpos : Pos} {elts : List Expr} {kk : Nat} (hg : Gl X "enumerate") (hm : X.mg "enumerate" = none) (ha : PA X [e] ta) (hs : starEach [e] X.env = [(false, eval e X.env)]) :
    PI X (.Tuple elts kk tpos) (.Call (.Name "enumerate" p) [e] [] pos) (iEnumG X.K ta) := by
  refine ⟨fun pins s σ H R I h => ?_⟩
  refine Call_ (ld_blt I hg hm boot_enumerate (PyProof.Rows.callWith_type1 (thn (ha.run pos pins s σ H _ I h) fun us s1 ⟨vs, H1, I1, r1, q1⟩ => ?_) hs rfl))
  obtain ⟨k, a, xs, ex, hq, q⟩ := q1
  subst ex
  cases r1 with
  | cons r rr =>
    cases rr
    cases r
    obtain ⟨its, rv, p', hz⟩ := hq.pl I1
    have la := p'.lt
    refine enum1 (beginsK k a its.toArray) p' fun h' he hit hk => wpAny_pyIter_enum he ?_
    have I2 : Inv X pins σ H1 { s1 with heap := h' } := I1.kept (t' := s1.toks) hk
    refine ⟨s1.heap.objs.size + 1, [s1.heap.objs.size + 1, s1.heap.objs.size], _, _, H1, rfl, I2, turn_enumG k a (s1.heap.objs.size + 1) s1.heap.objs.size (Nat.ne_of_lt la) (Nat.ne_of_gt (Nat.lt_succ_of_lt la)), ⟨⟨.none, he⟩, iterK.start hit, Nat.succ_ne_self _⟩, fun b hb => ?_, q⟩
    have e' : b = s1.heap.objs.size + 1 ∨ b = s1.heap.objs.size := by simpa using hb
    have hle : s1.heap.objs.size ≤ b := by
      rcases e' with z | z
      · rw [z]; exact Nat.le_add_right _ _
      · rw [z]; exact Nat.le_refl _
    exact I1.fpOk hle (I1.hok.fresh hle)

/-! ### zip -/
def ItzG (k1 k2 : Bool) (K : PySem.W.Frag) (a b : Addr) : It :=
  ⟨fun i H => ∃ (xs ys : List V) (x y : V), SqK k1 K H a xs ∧ SqK k2 K H b ys ∧ xs[i]? = some x ∧ ys[i]? = some y,
    fun i H v H' => ∃ T x y o, v = .ref T ∧ H T = none ∧ Obj.dict o = none ∧ H' = upd H T (.frz o (.tup [x, y])) ∧ (∀ xs, SqK k1 K H a xs → xs[i]? = some x) ∧ ∀ ys, SqK k2 K H b ys → ys[i]? = some y,
    fun i H => ∃ xs ys : List V, SqK k1 K H a xs ∧ SqK k2 K H b ys ∧ i ≤ xs.length ∧ i ≤ ys.length ∧ (xs.length = i ∨ ys.length = i)⟩
theorem turn_zipG {P : Program} {w : World} {K : PySem.W.Frag} {elts : List Expr} {kk : Nat} {tpos : Pos} (k1 k2 : Bool) {a b z TI TO i1 i2 : Addr} (Sp : ZipSep2 z TI TO i1 i2 [i1, a] [i2, b]) (na : a ≠ i1) (nb : b ≠ i2) :
    Turn P w K (.Tuple elts kk tpos) (ItzG k1 k2 K a b) [z, TI, TO, i1, i2] z (fun i h => IsZip h z TI TO .none ∧ IsTupOf2 h TI (.ref i1) (.ref i2) ∧ (∃ x y, IsTupOf2 h TO x y) ∧ iterK k1 h i1 a i ∧ iterK k2 h i2 b i) where
  mem := by simp
  obj := fun i h st c hc => by
    obtain ⟨hz, hTI, ⟨x, y, hTO⟩, h1, h2⟩ := st
    have e' : c = z ∨ c = TI ∨ c = TO ∨ c = i1 ∨ c = i2 := by simpa using hc
    rcases e' with q | q | q | q | q
    · rw [q]; exact ⟨_, hz, fun v q => nomatch q⟩
    · rw [q]; exact ⟨_, hTI, fun v q => nomatch q⟩
    · rw [q]; exact ⟨_, hTO, fun v q => nomatch q⟩
    · rw [q]; exact h1.there
    · rw [q]; exact h2.there
  keep := fun i h h' st k => by
    obtain ⟨hz, hTI, ⟨x, y, hTO⟩, h1, h2⟩ := st
    exact ⟨k z (by simp) _ hz, k TI (by simp) _ hTI, ⟨x, y, k TO (by simp) _ hTO⟩, h1.at fun o q => k i1 (by simp) o q, h2.at fun o q => k i2 (by simp) o q⟩
  item := by
    intro X hP hw hK hc i pins s σ H E I hf st hg
    subst hP hw hK
    obtain ⟨hz, hTI, ⟨x0, y0, hTO⟩, h1, h2⟩ := st
    obtain ⟨xs, ys, x, y, hqx, hqy, hx, hy⟩ := hg
    obtain ⟨its, rv, p, _⟩ := hqx.pl I
    obtain ⟨its2, rv2, p2, _⟩ := hqy.pl I
    obtain ⟨u, hu, ru⟩ := rv.get hx
    obtain ⟨u2, hu2, ru2⟩ := rv2.get hy
    have hzl : z < s.heap.objs.size := Heap.lt_size hz
    have l1 : i < its.toArray.size := by rw [List.size_toArray]; exact (List.getElem?_eq_some_iff.mp hu).1
    have l2 : i < its2.toArray.size := by rw [List.size_toArray]; exact (List.getElem?_eq_some_iff.mp hu2).1
    refine wpAny_pyNext_zipD2_item Sp (drawK (k := k1) (A := X.A.in1) (I.ok.hd hc) i1 a na its.toArray) (drawK (k := k2) (A := X.A.in1) (I.ok.hd hc) i2 b nb its2.toArray) hz hTI hTO ⟨h1, p⟩ ⟨h2, p2⟩ l1 l2 fun x1 x2 h' tk P1 P2 z' TO' st1' st2' hT hsz hk => ?_
    have e1 : x1 = u := by
      have P1 : its.toArray[i]? = some x1 := P1
      simp only [List.getElem?_toArray] at P1
      rw [hu] at P1; cases P1; rfl
    have e2 : x2 = u2 := by
      have P2 : its2.toArray[i]? = some x2 := P2
      simp only [List.getElem?_toArray] at P2
      rw [hu2] at P2; cases P2; rfl
    subst e1 e2
    refine ⟨_, rfl, wpAny_letOwnedTupleGo_zip (s := { s with heap := h', toks := tk }) z' fun h'' z'' sb => ?_⟩
    have hT2 : h''.get? s.heap.objs.size = some { cls := .type "tuple", data := .seq #[x1, x2] } := (sb.2 _ (Nat.ne_of_gt hzl)).trans hT
    have new : ObjOk X.prog X.w (upd H s.heap.objs.size (.frz { cls := .type "tuple", data := .seq #[x1, x2] } (.tup [x, y]))) h'' s.heap.objs.size (.frz { cls := .type "tuple", data := .seq #[x1, x2] } (.tup [x, y])) :=
      ⟨hT2, by show 2 ≤ sizeLine; decide, [x1, x2], .cons ru (.cons ru2 .nil), ⟨_, hT2, rfl, _, rfl⟩⟩
    have I1 : Inv X pins σ (upd H s.heap.objs.size (.frz { cls := .type "tuple", data := .seq #[x1, x2] } (.tup [x, y]))) { s with heap := h'', toks := tk } :=
      I.turnedNew (t' := tk) (ch := [z, TI, TO, i1, i2]) (fun c o hb q => (sb.2 c (fun q' => hb (by simp [q']))).trans (hk c o (fun q' => hb (by simp [q'])) (fun q' => hb (by simp [q'])) (fun q' => hb (by simp [q'])) (fun q' => hb (by simp [q'])) q)) hf (Nat.le_refl _) new
    refine ⟨.ref s.heap.objs.size, _, I1, rfl, ⟨_, x, y, _, rfl, I.hok.fresh (Nat.le_refl _), rfl, rfl, fun l hl => by rw [SqK.inj I hl hqx]; exact hx, fun l hl => by rw [SqK.inj I hl hqy]; exact hy⟩, ⟨z'', ?_, ⟨x1, x2, ?_⟩, ?_, ?_⟩, fun c hcm => ?_⟩
    · exact (sb.2 _ Sp.TIz).trans (hk _ _ Sp.TIz Sp.TITO Sp.TIi1 Sp.TIi2 hTI)
    · exact (sb.2 _ Sp.TOz).trans TO'
    · exact st1'.1.at fun o q => (sb.2 _ (Ne.symm Sp.zi1)).trans q
    · exact st2'.1.at fun o q => (sb.2 _ (Ne.symm Sp.zi2)).trans q
    · have hlt : c < s.heap.objs.size := by
        have e' : c = z ∨ c = TI ∨ c = TO ∨ c = i1 ∨ c = i2 := by simpa using hcm
        rcases e' with q | q | q | q | q
        · rw [q]; exact hzl
        · rw [q]; exact Heap.lt_size hTI
        · rw [q]; exact Heap.lt_size hTO
        · rw [q]; obtain ⟨_, e1, _⟩ := h1.there; exact Heap.lt_size e1
        · rw [q]; obtain ⟨_, e1, _⟩ := h2.there; exact Heap.lt_size e1
      rw [upd_ne (Nat.ne_of_lt hlt)]
      exact (hf c hcm).1
  done := by
    intro X hP hw hK hc i pins s σ H E I hf st hg
    subst hP hw hK
    obtain ⟨hz, hTI, ⟨x0, y0, hTO⟩, h1, h2⟩ := st
    obtain ⟨xs, ys, hqx, hqy, g1, g2, hend⟩ := hg
    obtain ⟨its, rv, p, _⟩ := hqx.pl I
    obtain ⟨its2, rv2, p2, _⟩ := hqy.pl I
    have l1 : its.toArray.size = xs.length := by rw [List.size_toArray]; exact rv.length.symm
    have l2 : its2.toArray.size = ys.length := by rw [List.size_toArray]; exact rv2.length.symm
    exact wpAny_pyNext_zipD2_end Sp (drawK (k := k1) (A := X.A.in1) (I.ok.hd hc) i1 a na its.toArray) (drawK (k := k2) (A := X.A.in1) (I.ok.hd hc) i2 b nb its2.toArray) hz hTI hTO ⟨h1, p⟩ ⟨h2, p2⟩ (by omega) (by omega) (by omega) fun h' tk hk =>
      ⟨rfl, I.turnedL (t' := tk) (ch := [z, TI, TO, i1, i2]) (fun c o hb q => hk c o (fun q' => hb (by simp [q'])) (fun q' => hb (by simp [q'])) (fun q' => hb (by simp [q'])) (fun q' => hb (by simp [q'])) q) hf⟩
  self := fun A i s Q E st h => wpAny_pyIter_zip st.1 h
def iZipG (K : PySem.W.Frag) (ta : TA) : TI := fun σ H R => ta σ H fun vs H1 => ∃ k1 k2 a b xs ys, vs = [.ref a, .ref b] ∧ SqK k1 K H1 a xs ∧ SqK k2 K H1 b ys ∧ R (ItzG k1 k2 K a b) H1
theorem pi_zipG {X : Cx} {e e2 : Expr} {ta : TA} {p pos tpos : Pos} {elts : List Expr} {kk : Nat} (hg : Gl X "zip") (hm : X.mg "zip" = none) (ha : PA X [e, e2] ta)
    (hs : starEach [e, e2] X.env = (false, eval e X.env) :: starEach [e2] X.env) (hpl : (backTo pos (starEach [e2] X.env)).any (·.1) = false) :
    PI X (.Tuple elts kk tpos) (.Call (.Name "zip" p) [e, e2] [] pos) (iZipG X.K ta) := by
  refine ⟨fun pins s σ H R I h => ?_⟩
  refine Call_ (ld_blt I hg hm PyProof.Rows.boot_zip (PyProof.Rows.callWith_type1 (thn (ha.run pos pins s σ H _ I h) fun us s1 ⟨vs, H1, I1, r1, q1⟩ => ?_) hs hpl))
  obtain ⟨k1, k2, a, b, xs, ys, ex, hqx, hqy, q⟩ := q1
  subst ex
  cases r1 with
  | cons r rr =>
    cases rr with
    | cons r' rr =>
      cases rr
      cases r
      cases r'
      obtain ⟨its, rv, p1, _⟩ := hqx.pl I1
      obtain ⟨its2, rv2, p2, _⟩ := hqy.pl I1
      have la := p1.lt
      have lb := p2.lt
      refine zip_begins2 (beginsK k1 a its.toArray) (beginsK k2 b its2.toArray) p1 p2 fun h' hz hTI hTO h1 h2 hsz hk => wpAny_pyIter_zip hz ?_
      have I2 : Inv X pins σ H1 { s1 with heap := h' } := I1.kept (t' := s1.toks) hk
      refine ⟨s1.heap.objs.size + 4, [s1.heap.objs.size + 4, s1.heap.objs.size + 2, s1.heap.objs.size + 3, s1.heap.objs.size, s1.heap.objs.size + 1], _, _, H1, rfl, I2,
        turn_zipG k1 k2 (zip_sep2 (N := s1.heap.objs.size) (fp1 := [a]) (fp2 := [b]) (by simpa using la) (by simpa using lb)) (Nat.ne_of_lt la) (Nat.ne_of_lt (Nat.lt_succ_of_lt lb)), ⟨hz, hTI, ⟨_, _, hTO⟩, iterK.start h1, iterK.start h2⟩, fun c hcm => ?_, q⟩
      have e' : c = s1.heap.objs.size + 4 ∨ c = s1.heap.objs.size + 2 ∨ c = s1.heap.objs.size + 3 ∨ c = s1.heap.objs.size ∨ c = s1.heap.objs.size + 1 := by simpa using hcm
      have hle : s1.heap.objs.size ≤ c := by
        rcases e' with z | z | z | z | z
        · rw [z]; exact Nat.le_add_right _ _
        · rw [z]; exact Nat.le_add_right _ _
        · rw [z]; exact Nat.le_add_right _ _
        · rw [z]; exact Nat.le_refl _
        · rw [z]; exact Nat.le_add_right _ _
      exact I1.fpOk hle (I1.hok.fresh hle)
end PF

set_option Elab.async false
set_option linter.all false
set_option maxRecDepth 100000
/-! PF5: the operators are sound -/
namespace PF
open PySem PySem.Spec PyProof.Rows L2

/-! ### to the library's data -/
mutual
theorem eqT_py : ∀ a b : T, eqT a b = PyData.eqv (toPy a) (toPy b)
  | .non, .non | .non, .bl _ | .non, .int _ | .non, .str _ | .non, .tup _ => by simp [eqT, toPy, PyData.eqv]
  | .bl _, .non | .bl _, .bl _ | .bl _, .int _ | .bl _, .str _ | .bl _, .tup _ => by simp [eqT, toPy, PyData.eqv]
  | .int _, .non | .int _, .bl _ | .int _, .int _ | .int _, .str _ | .int _, .tup _ => by simp [eqT, toPy, PyData.eqv]
  | .str _, .non | .str _, .bl _ | .str _, .int _ | .str _, .str _ | .str _, .tup _ => by simp [eqT, toPy, PyData.eqv]
  | .tup _, .non | .tup _, .bl _ | .tup _, .int _ | .tup _, .str _ => by simp [eqT, toPy, PyData.eqv]
  | .tup xs, .tup ys => by
    simp only [eqT, toPy, PyData.eqv]
    exact eqTs_py xs ys
theorem eqTs_py : ∀ xs ys : List T, eqTs xs ys = PyData.eqvAll (toPys xs) (toPys ys)
  | [], [] => by simp [eqTs, toPys, PyData.eqvAll]
  | [], _ :: _ => by simp [eqTs, toPys, PyData.eqvAll]
  | _ :: _, [] => by simp [eqTs, toPys, PyData.eqvAll]
  | x :: xs, y :: ys => by
    simp only [eqTs, toPys, PyData.eqvAll]
    rw [eqT_py x y, eqTs_py xs ys]
end
mutual
theorem plain_py : ∀ t : T, (toPy t).plain = true
  | .non | .bl _ | .int _ | .str _ => by simp [toPy, PyData.plain]
  | .tup xs => by simp only [toPy, PyData.plain]; exact plains_py xs
theorem plains_py : ∀ ts : List T, PyData.plainAll (toPys ts) = true
  | [] => by simp [toPys, PyData.plainAll]
  | t :: r => by simp only [toPys, PyData.plainAll, plain_py t, plains_py r, Bool.and_self]
end
theorem depth_py : ∀ (n : Nat) (t : T), okT n t = true → (toPy t).depth ≤ n := by
  intro n
  induction n with
  | zero => intro t h; simp [okT] at h
  | succ n ih =>
    have all : ∀ xs : List T, xs.all (okT n) = true → PyData.depthAll (toPys xs) ≤ n := by
      intro xs
      induction xs with
      | nil => intro _; simp [toPys, PyData.depthAll]
      | cons x r ihr =>
        intro h
        simp only [List.all_cons, Bool.and_eq_true] at h
        have h1 := ih x h.1
        have h2 := ihr h.2
        simp only [toPys, PyData.depthAll]
        omega
    intro t h
    cases t with
    | tup xs =>
      have := all xs (by simpa [okT] using h)
      simp only [toPy, PyData.depth]
      omega
    | _ => simp [toPy, PyData.depth]
theorem depths_py (n : Nat) (xs : List T) (h : xs.all (okT n) = true) : PyData.depthAll (toPys xs) ≤ n := by
  induction xs with
  | nil => simp [toPys, PyData.depthAll]
  | cons x r ihr =>
    simp only [List.all_cons, Bool.and_eq_true] at h
    have h1 := depth_py n x h.1
    have h2 := ihr h.2
    simp only [toPys, PyData.depthAll]
    omega
mutual
theorem RT.dp {K : PySem.W.Frag} {H : Hp} : ∀ {v : V} {t : T}, RT K H v t → Dp K H v (toPy t)
  | _, _, .non => .non
  | _, _, .bl b => .bl b
  | _, _, .int i => .int i
  | _, _, .str x => .str x
  | _, _, .tup h hs => .tup h.t (RTs.dp hs)
theorem RTs.dp {K : PySem.W.Frag} {H : Hp} : ∀ {vs : List V} {ts : List T}, RTs K H vs ts → DpAll K H vs (toPys ts)
  | _, _, .nil => .nil
  | _, _, .cons h hs => .cons (RT.dp h) (RTs.dp hs)
end

/-! ### order -/
mutual
theorem alT_py : ∀ a b : T, alT a b = true → PySem.W.alike (toPy a) (toPy b) = true ∧ toPy a ≠ .none
  | .bl _, .bl _, _ => by simp [toPy, PySem.W.alike]
  | .int _, .int _, _ => by simp [toPy, PySem.W.alike]
  | .str _, .str _, _ => by simp [toPy, PySem.W.alike]
  | .tup xs, .tup ys, h => by
    simp only [alT] at h
    simp only [toPy, PySem.W.alike]
    exact ⟨alTs_py xs ys h, by simp⟩
theorem alTs_py : ∀ xs ys : List T, alTs xs ys = true → PySem.W.alikeAll (toPys xs) (toPys ys) = true
  | x :: xs, y :: ys, h => by
    simp only [alTs, Bool.and_eq_true] at h
    simp only [toPys, PySem.W.alikeAll, (alT_py x y h.1).1, alTs_py xs ys h.2, Bool.and_self]
  | [], _, _ => by simp [toPys, PySem.W.alikeAll]
  | _ :: _, [], _ => by simp [toPys, PySem.W.alikeAll]
end
mutual
theorem alT_comm : ∀ a b : T, alT a b = alT b a
  | .non, b => by cases b <;> simp [alT]
  | .bl _, b => by cases b <;> simp [alT]
  | .int _, b => by cases b <;> simp [alT]
  | .str _, b => by cases b <;> simp [alT]
  | .tup xs, .tup ys => by simp only [alT]; exact alTs_comm xs ys
  | .tup xs, .non => by simp [alT]
  | .tup xs, .bl _ => by simp [alT]
  | .tup xs, .int _ => by simp [alT]
  | .tup xs, .str _ => by simp [alT]
theorem alTs_comm : ∀ xs ys : List T, alTs xs ys = alTs ys xs
  | [], [] => rfl
  | [], _ :: _ => by simp [alTs]
  | _ :: _, [] => by simp [alTs]
  | x :: xs, y :: ys => by simp only [alTs, alT_comm x y, alTs_comm xs ys]
end
mutual
theorem ltT_py : ∀ a b : T, alT a b = true → ltT a b = PySem.W.dataLt (toPy a) (toPy b)
  | .bl a, .bl b, _ => by
    simp only [toPy, ltT, PySem.W.dataLt_bool]
    cases a <;> cases b <;> rfl
  | .int _, .int _, _ => by simp only [toPy, ltT, PySem.W.dataLt_int]
  | .str _, .str _, _ => by simp only [toPy, ltT, PySem.W.dataLt_str]
  | .tup xs, .tup ys, h => by
    simp only [alT] at h
    simp only [toPy, ltT, PySem.W.dataLt_tuple]
    exact ltTs_py xs ys h
theorem ltTs_py : ∀ xs ys : List T, alTs xs ys = true → ltTs xs ys = PyProof.Rows.lexLt PyProof.Rows.itemOrd (PySem.W.keyToksAll (toPys xs)) (PySem.W.keyToksAll (toPys ys))
  | x :: xs, y :: ys, h => by
    simp only [alTs, Bool.and_eq_true] at h
    simp only [toPys, ltTs]
    rw [PySem.W.dataLt_cons (alT_py x y h.1).1, ← eqT_py, ltTs_py xs ys h.2, ltT_py x y h.1]
  | [], [], _ => by simp only [toPys, ltTs]; exact (PyProof.Rows.lex_irrefl _).symm
  | [], y :: ys, _ => by
    simp only [toPys, ltTs, PySem.W.keyToksAll]
    rw [PySem.W.lex_atom (by simp), PySem.W.lex_one]
    rfl
  | x :: xs, [], _ => by
    simp only [toPys, ltTs, PySem.W.keyToksAll]
    rw [PySem.W.lex_atom (by simp), PySem.W.lex_one]
    rfl
end
theorem toPys_map : ∀ ts : List T, toPys ts = ts.map toPy
  | [] => rfl
  | t :: r => by simp [toPys, toPys_map r]
theorem allAl_py {ts : List T} (h : allAl ts = true) : ∀ x ∈ ts, ∀ y ∈ ts, PySem.W.alike (toPy x) (toPy y) = true ∧ toPy x ≠ .none := fun x hx y hy =>
  alT_py x y (List.all_eq_true.mp (List.all_eq_true.mp h x hx) y hy)

/-! ### what is known of a value -/
def Rd (K : PySem.W.Frag) (H : Hp) (v : V) (d : D) : Prop := ∃ G, OW K H v d G
def NewV (K : PySem.W.Frag) (H : Hp) (v : V) (d : D) (H' : Hp) : Prop := ∃ G, OW K H' v d G ∧ ND G ∧ (∀ a ∈ G, H a = none) ∧ Fr H H' []
section
variable {K : PySem.W.Frag} {H : Hp} {v : V}
theorem Rd.rt {t : T} (h : Rd K H v (.p t)) : RT K H v t := by
  obtain ⟨G, h⟩ := h
  cases h with
  | p h => exact h
theorem Rd.int {i : Int} (h : Rd K H v (.p (.int i))) : v = .int i := by
  cases h.rt
  rfl
theorem Rd.bl {i : Bool} (h : Rd K H v (.p (.bl i))) : v = .bl i := by
  cases h.rt
  rfl
theorem Rd.str {i : Str} (h : Rd K H v (.p (.str i))) : v = .str i := by
  cases h.rt
  rfl
theorem Rd.non (h : Rd K H v (.p .non)) : v = .non := by
  cases h.rt
  rfl
theorem Rd.tupD {ts : List T} (h : Rd K H v (.p (.tup ts))) : ∃ a vs, v = .ref a ∧ SqD K H a vs ∧ RTs K H vs ts := by
  cases h.rt with
  | tup h1 hs => exact ⟨_, _, rfl, h1, hs⟩
theorem Rd.tup {ts : List T} (h : Rd K H v (.p (.tup ts))) : ∃ a vs, v = .ref a ∧ SqT K H a vs ∧ RTs K H vs ts := by
  obtain ⟨a, vs, e, h1, hs⟩ := h.tupD
  exact ⟨a, vs, e, h1.t, hs⟩
theorem Rd.lst {ds : List D} (h : Rd K H v (.l ds)) : ∃ a vs G, v = .ref a ∧ H a = some (.lst vs) ∧ OWs K H vs ds G := by
  obtain ⟨G, h⟩ := h
  cases h with
  | l h hs => exact ⟨_, _, _, rfl, h, hs⟩
theorem Rd.lstP {ds : List D} {ts : List T} (h : Rd K H v (.l ds)) (p : pures ds = some ts) : ∃ a vs, v = .ref a ∧ H a = some (.lst vs) ∧ RTs K H vs ts := by
  obtain ⟨a, vs, G, e, h, hs⟩ := h.lst
  rw [pures_eq p] at hs
  exact ⟨a, vs, e, h, hs.rts.1⟩
theorem Rd.items {d : D} {ts : List T} (h : Rd K H v d) (p : items d = some ts) : ∃ a vs, v = .ref a ∧ SqL K H a vs ∧ RTs K H vs ts := by
  cases d with
  | l ds =>
    obtain ⟨a, vs, e, h, hs⟩ := h.lstP p
    exact ⟨a, vs, e, .of h, hs⟩
  | ro us =>
    have e : us = ts := Option.some.inj p
    subst e
    obtain ⟨G, h⟩ := h
    cases h with
    | ro h hs => exact ⟨_, _, rfl, h.l, hs⟩
  | p t => cases p
  | u _ => cases p
  | c _ _ => cases p
theorem Rd.seq {d : D} {ts : List T} (h : Rd K H v d) (p : seqT d = some ts) : ∃ a vs, v = .ref a ∧ (SqL K H a vs ∨ SqT K H a vs) ∧ RTs K H vs ts := by
  unfold seqT at p
  split at p
  · cases p
    obtain ⟨a, vs, e, h, hs⟩ := h.tup
    exact ⟨a, vs, e, .inr h, hs⟩
  · obtain ⟨a, vs, e, h, hs⟩ := h.items p
    exact ⟨a, vs, e, .inl h, hs⟩
theorem NewV.p {t : T} (h : RT K H v t) : NewV K H v (.p t) H := ⟨[], .p h, ND.nil, fun _ z => (nomatch z), Fr.refl _ _⟩
theorem NewV.int (i : Int) : NewV K H (.int i) (I i) H := .p (.int i)
theorem NewV.bl (i : Bool) : NewV K H (.bl i) (B i) H := .p (.bl i)
theorem newRTs {a : Addr} {o : HO} {vs : List V} {ts : List T} (h : H a = none) (r : RTs K H vs ts) : RTs K (upd H a o) vs ts := r.fr (F := []) (Fr.new h) MutF.nil
theorem NewV.list {a : Addr} {vs : List V} {ts : List T} (h : H a = none) (r : RTs K H vs ts) : NewV K H (.ref a) (L ts) (upd H a (.lst vs)) :=
  ⟨[a], .l upd_same (.pure (newRTs h r)), ND.one a, fun b z => by rw [List.mem_singleton.mp z]; exact h, Fr.new h⟩
theorem NewV.tup {a : Addr} {vs : List V} {ts : List T} {o : Obj} (h : H a = none) (ho : o.dict = none) (r : RTs K H vs ts) : NewV K H (.ref a) (.p (.tup ts)) (upd H a (.frz o (.tup vs))) :=
  ⟨[], .p (.tup (.inl ⟨o, upd_same, ho⟩) (newRTs h r)), ND.nil, fun b z => (nomatch z), Fr.new h⟩
theorem RTs.ints {vs : List V} : ∀ {ts : List T} {is : List Int}, RTs K H vs ts → intsOf ts = some is → vs = is.map V.int := by
  induction vs with
  | nil => intro ts is r e; cases r; cases e; rfl
  | cons v vs ih =>
    intro ts is r e
    cases r with
    | @cons _ _ t ts h hs =>
      cases t with
      | int i =>
        simp only [intsOf] at e
        cases e2 : intsOf ts with
        | none => rw [e2] at e; cases e
        | some js =>
          rw [e2] at e
          cases e
          cases h
          rw [ih hs e2]
          rfl
      | _ => cases e
theorem RTs.blss {vs : List V} : ∀ {ts : List T} {is : List Bool}, RTs K H vs ts → blsOf ts = some is → vs = is.map V.bl := by
  induction vs with
  | nil => intro ts is r e; cases r; cases e; rfl
  | cons v vs ih =>
    intro ts is r e
    cases r with
    | @cons _ _ t ts h hs =>
      cases t with
      | bl i =>
        simp only [blsOf] at e
        cases e2 : blsOf ts with
        | none => rw [e2] at e; cases e
        | some js =>
          rw [e2] at e
          cases e
          cases h
          rw [ih hs e2]
          rfl
      | _ => cases e
theorem RTs.of_ints : ∀ is : List Int, RTs K H (is.map V.int) (is.map T.int)
  | [] => .nil
  | i :: r => .cons (.int i) (RTs.of_ints r)
theorem LIM_line : LIM = sizeLine := by rw [sizeLine_eq]; rfl
end
end PF

set_option Elab.async false
set_option linter.all false
set_option maxRecDepth 100000
/-! PF6: the operators are sound: two places -/
namespace PF
open PySem PySem.Spec PyProof.Rows L2
section
variable {K : PySem.W.Frag} {H : Hp} {x y : V} {d e z : D} {Q : VK}
/-- what an operator's reading asks is met -/
def Meet (K : PySem.W.Frag) (H : Hp) (z : D) (Q : VK) : Prop := ∀ v H', NewV K H v z H' → Q v H'
theorem cnt (a : Int) (b : Int) (q : Meet K H (I (a + b)) Q) : Q (.int (a + b)) H := q _ _ (.int _)

/-! ### arithmetic -/
/-- t + u -/
def rCatF (K : PySem.W.Frag) : R2 := fun x y H Q => ∃ a b xs ys, x = .ref a ∧ y = .ref b ∧ SqT K H a xs ∧ SqT K H b ys ∧ xs.length + ys.length ≤ sizeLine ∧
  (xs = [] → Q (.ref b) H) ∧ (xs ≠ [] → ys = [] → Q (.ref a) H) ∧ (xs ≠ [] → ys ≠ [] → ∀ p (o : Obj), H p = none → o.dict = none → Q (.ref p) (upd H p (.frz o (.tup (xs ++ ys)))))
theorem op_catF {X : Cx} : OpR X (binaryOp .Add) (rCatF X.K) := by
  intro pins s σ H x y v u Q I rx ry ⟨a, b, xs, ys, ex, ey, ha, hb, hz, q0, q1, q2⟩
  subst ex ey
  cases rx
  cases ry
  obtain ⟨its, r1, p1, _⟩ := I.tuple ha
  obtain ⟨its2, r2, p2, _⟩ := I.tuple hb
  have n1 : its = [] ↔ xs = [] := by cases r1 <;> simp
  have n2 : its2 = [] ↔ ys = [] := by cases r2 <;> simp
  by_cases hx : xs = []
  · have e := n1.mpr hx
    subst e
    exact cat_tup0 p1 p2 ⟨.ref b, H, I, rfl, q0 hx⟩
  · refine HT.cat_tup p1 p2 (fun z => hx (n1.mp z)) (fun z => ⟨.ref a, H, I, rfl, q1 hx (n2.mp z)⟩) (fun z => ?_) (by rw [← r1.length, ← r2.length]; exact hz)
    have hg := Heap.get?_push_size s.heap (o := { cls := .type "tuple", data := .seq (its ++ its2).toArray }) rfl
    refine ⟨.ref s.heap.objs.size, _, I.laid (t' := s.toks) (o := .frz { cls := .type "tuple", data := .seq (its ++ its2).toArray } (.tup (xs ++ ys))) (fun c ob q => Heap.get?_push_of_some _ q) (Nat.le_refl _) ⟨hg, ?_, _, r1.append r2, ⟨_, hg, rfl, _, rfl⟩⟩, rfl, q2 hx (fun w => z (n2.mpr w)) _ _ (I.hok.fresh (Nat.le_refl _)) rfl⟩
    rw [List.length_append]; exact hz
def rAdd (K : PySem.W.Frag) : R2 := fun x y H Q => ((rI0 (fun i j => .int (i + j)) x y H Q ∨ rCatF K x y H Q) ∨ rCat x y H Q) ∨ ∃ i j, x = .str i ∧ y = .str j ∧ i.length + j.length ≤ sizeLine ∧ Q (.str (i ++ j)) H
theorem or_add {X : Cx} : OpR X (binaryOp .Add) (rAdd X.K) := ((op_add.or op_catF).or op_cat).or op_add_str
theorem s_add (h : addD [d, e] = some z) (hx : Rd K H x d) (hy : Rd K H y e) (q : Meet K H z Q) : rAdd K x y H Q := by
  unfold addD at h
  split at h
  · rename_i a b heq
    cases heq; cases h
    rw [hx.int, hy.int]
    exact .inl (.inl (.inl ⟨a, b, rfl, rfl, q _ _ (.int _)⟩))
  · rename_i a b heq
    cases heq
    split at h
    · rename_i hl
      cases h
      obtain ⟨p, vs, rfl, hp, rp⟩ := hx.tupD
      obtain ⟨p2, vs2, rfl, hp2, rp2⟩ := hy.tupD
      refine .inl (.inl (.inr ⟨p, p2, vs, vs2, rfl, rfl, hp.t, hp2.t, by rw [rp.len, rp2.len, ← LIM_line]; exact hl, fun e => ?_, fun e1 e2 => ?_, fun e1 e2 c o hc ho => ?_⟩))
      · subst e
        cases rp
        exact q _ _ (.p (.tup hp2 rp2))
      · subst e2
        cases rp2
        refine q _ _ (.p ?_)
        rw [List.append_nil]
        exact .tup hp rp
      · exact q _ _ (.tup hc ho (rp.app rp2))
    · cases h
  · rename_i a b heq
    cases heq
    split at h
    · rename_i hl
      cases h
      rw [hx.str, hy.str]
      exact .inr ⟨a, b, rfl, rfl, by rw [← LIM_line]; exact hl, q _ _ (.p (.str _))⟩
    · cases h
  · rename_i a b heq
    cases heq
    split at h
    · rename_i xs ys e1 e2
      split at h
      · rename_i hl
        cases h
        obtain ⟨p, vs, rfl, hp, rp⟩ := hx.lstP e1
        obtain ⟨p2, vs2, rfl, hp2, rp2⟩ := hy.lstP e2
        exact .inl (.inr ⟨p, p2, vs, vs2, rfl, rfl, hp, hp2, by rw [rp.len, rp2.len, ← LIM_line]; exact hl, fun c hc => q _ _ (.list hc (rp.app rp2))⟩)
      · cases h
    · cases h
  · cases h
theorem s_sub (h : subD [d, e] = some z) (hx : Rd K H x d) (hy : Rd K H y e) (q : Meet K H z Q) : rI0 (fun i j => .int (i - j)) x y H Q := by
  unfold subD at h
  split at h
  · rename_i a b heq
    cases heq; cases h
    rw [hx.int, hy.int]
    exact ⟨a, b, rfl, rfl, q _ _ (.int _)⟩
  · cases h
theorem RTs.rep {vs : List V} {ts : List T} (r : RTs K H vs ts) : ∀ k : Nat, RTs K H (List.replicate k vs).flatten (List.replicate k ts).flatten
  | 0 => .nil
  | k + 1 => by
    rw [List.replicate_succ, List.replicate_succ, List.flatten_cons, List.flatten_cons]
    exact r.app (RTs.rep r k)
def rMul : R2 := fun x y H Q => rI CMul (fun i j => .int (i * j)) x y H Q ∨ rRep x y H Q
theorem or_mul {X : Cx} : OpR X (binaryOp .Mult) rMul := op_mul.or op_rep
theorem big64_of {a b : Int} (h : (big64 a || big64 b) = true) : CMul a b := by
  unfold big64 at h
  simp only [Bool.or_eq_true, Bool.and_eq_true, decide_eq_true_eq] at h
  exact h
theorem s_mul (h : mulD [d, e] = some z) (hx : Rd K H x d) (hy : Rd K H y e) (q : Meet K H z Q) : rMul x y H Q := by
  unfold mulD at h
  split at h
  · rename_i a b heq
    cases heq
    split at h
    · rename_i hb
      cases h
      rw [hx.int, hy.int]
      exact .inl ⟨a, b, rfl, rfl, big64_of hb, q _ _ (.int _)⟩
    · cases h
  · rename_i xs k heq
    cases heq
    split at h
    · rename_i ts e1
      split at h
      · rename_i hk
        cases h
        simp only [Bool.and_eq_true, decide_eq_true_eq] at hk
        obtain ⟨p, vs, rfl, hp, rp⟩ := hx.lstP e1
        rw [hy.int]
        refine .inr ⟨p, k, vs, rfl, rfl, hp, hk.1.1, hk.1.2, by rw [rp.len, ← LIM_line]; exact hk.2, fun c hc => q _ _ (.list hc (rp.rep _))⟩
      · cases h
    · cases h
  · cases h
theorem s_fdiv (h : fdivD [d, e] = some z) (hx : Rd K H x d) (hy : Rd K H y e) (q : Meet K H z Q) : rI CDivW (fun i j => .int (i / j)) x y H Q := by
  unfold fdivD at h
  split at h
  · rename_i a b heq
    cases heq
    split at h
    · rename_i hb
      cases h
      simp only [Bool.and_eq_true, decide_eq_true_eq] at hb
      rw [hx.int, hy.int]
      exact ⟨a, b, rfl, rfl, hb, q _ _ (.int _)⟩
    · cases h
  · cases h
theorem s_mod (h : modD [d, e] = some z) (hx : Rd K H x d) (hy : Rd K H y e) (q : Meet K H z Q) : rI (fun _ j => 0 < j) (fun i j => .int (i % j)) x y H Q := by
  unfold modD at h
  split at h
  · rename_i a b heq
    cases heq
    split at h
    · rename_i hb
      cases h
      simp only [decide_eq_true_eq] at hb
      rw [hx.int, hy.int]
      exact ⟨a, b, rfl, rfl, hb, q _ _ (.int _)⟩
    · cases h
  · cases h
theorem powC_of {a b : Int} (h : powC a b = true) : CPow a b := by
  unfold powC at h
  simp only [Bool.and_eq_true, decide_eq_true_eq] at h
  exact ⟨h.1.1, h.1.2, h.2⟩
theorem s_pow (h : powD [d, e] = some z) (hx : Rd K H x d) (hy : Rd K H y e) (q : Meet K H z Q) : rI CPow (fun i j => .int (i ^ j.toNat)) x y H Q := by
  unfold powD at h
  split at h
  · rename_i a b heq
    cases heq
    split at h
    · rename_i hb
      cases h
      rw [hx.int, hy.int]
      exact ⟨a, b, rfl, rfl, powC_of hb, q _ _ (.int _)⟩
    · cases h
  · cases h
theorem s_shl (h : shlD [d, e] = some z) (hx : Rd K H x d) (hy : Rd K H y e) (q : Meet K H z Q) : rI CPow (fun i j => .int (i * 2 ^ j.toNat)) x y H Q := by
  unfold shlD at h
  split at h
  · rename_i a b heq
    cases heq
    split at h
    · rename_i hb
      cases h
      rw [hx.int, hy.int]
      exact ⟨a, b, rfl, rfl, powC_of hb, q _ _ (.int _)⟩
    · cases h
  · cases h
theorem s_shr (h : shrD [d, e] = some z) (hx : Rd K H x d) (hy : Rd K H y e) (q : Meet K H z Q) : rI (fun _ j => 0 ≤ j) (fun i j => .int (i / 2 ^ j.toNat)) x y H Q := by
  unfold shrD at h
  split at h
  · rename_i a b heq
    cases heq
    split at h
    · rename_i hb
      cases h
      simp only [decide_eq_true_eq] at hb
      rw [hx.int, hy.int]
      exact ⟨a, b, rfl, rfl, hb, q _ _ (.int _)⟩
    · cases h
  · cases h
theorem s_bit {f : Int → Int → Int} (h : bitD f [d, e] = some z) (hx : Rd K H x d) (hy : Rd K H y e) (q : Meet K H z Q) : rI0 (fun i j => .int (f i j)) x y H Q := by
  unfold bitD at h
  split at h
  · rename_i a b heq
    cases heq; cases h
    rw [hx.int, hy.int]
    exact ⟨a, b, rfl, rfl, q _ _ (.int _)⟩
  · cases h
theorem s_neg (h : negD [d] = some z) (hx : Rd K H x d) (q : Meet K H z Q) : rU (fun i => .int (-i)) x H Q := by
  unfold negD at h
  split at h
  · rename_i a heq
    cases heq; cases h
    rw [hx.int]
    exact ⟨a, rfl, q _ _ (.int _)⟩
  · cases h

/-! ### comparisons -/
/-- t op u, of data -/
def rCmpT (K : PySem.W.Frag) (g : T → T → Bool) : R2 := fun x y H Q => ∃ t u, RT K H x t ∧ RT K H y u ∧ alT t u = true ∧ okT 32 t = true ∧ Q (.bl (g t u)) H
theorem op_cmpT {X : Cx} (hu : X.A.units + 65 < cLine) :
    OpR X (compareOp .Lt) (rCmpT X.K ltT) ∧ OpR X (compareOp .LtE) (rCmpT X.K fun t u => !ltT u t) ∧ OpR X (compareOp .Gt) (rCmpT X.K fun t u => ltT u t) ∧ OpR X (compareOp .GtE) (rCmpT X.K fun t u => !ltT t u) := by
  have sy : ∀ {t u : T}, alT t u = true → ltT u t = PySem.W.dataLt (toPy u) (toPy t) := fun {t u} h => by
    have h2 : alT u t = true := by
      rw [alT_comm]; exact h
    exact ltT_py u t h2
  refine ⟨?_, ?_, ?_, ?_⟩
  all_goals
    intro pins s σ H x y v w Q I rx ry ⟨t, u, ht, hu', al, ok, q⟩
    obtain ⟨as, r1⟩ := Dp.reads I _ x v ht.dp rx
    obtain ⟨bs, r2⟩ := Dp.reads I _ y w hu'.dp ry
    have hd := depth_py 32 t ok
    obtain ⟨ap, an⟩ := alT_py t u al
  · exact PySem.W.lt_data r1 r2 ap an (by omega) ⟨.bl _, H, I, rfl, by rw [← ltT_py t u al]; exact q⟩
  · exact PySem.W.le_data r1 r2 ap an (by omega) ⟨.bl _, H, I, rfl, by rw [← sy al]; exact q⟩
  · exact PySem.W.gt_data r1 r2 ap an (by omega) ⟨.bl _, H, I, rfl, by rw [← sy al]; exact q⟩
  · exact PySem.W.ge_data r1 r2 ap an (by omega) ⟨.bl _, H, I, rfl, by rw [← ltT_py t u al]; exact q⟩
theorem s_cmp {f : Int → Int → Bool} {g : T → T → Bool} (h : cmpD f g [d, e] = some z) (hx : Rd K H x d) (hy : Rd K H y e) (q : Meet K H z Q) : rI0 (fun i j => .bl (f i j)) x y H Q ∨ rCmpT K g x y H Q := by
  unfold cmpD at h
  split at h
  · rename_i a b heq
    cases heq; cases h
    rw [hx.int, hy.int]
    exact .inl ⟨a, b, rfl, rfl, q _ _ (.bl _)⟩
  · rename_i a b heq
    cases heq
    split at h
    · rename_i hk
      cases h
      simp only [Bool.and_eq_true] at hk
      exact .inr ⟨_, _, hx.rt, hy.rt, by simp only [alT]; exact hk.1, hk.2, q _ _ (.bl _)⟩
    · cases h
  · cases h
/-- as the library's data: a pure thing, or a list of pure things -/
def pyD : D → Option PyData
  | .p t => some (toPy t)
  | d => (items d).map fun ts => .list (toPys ts)
theorem Rd.dp {p : PyData} (h : Rd K H x d) (e : pyD d = some p) : Dp K H x p := by
  cases d with
  | p t => cases e; exact h.rt.dp
  | l ds =>
    cases e2 : PF.items (.l ds) with
    | none => simp [pyD, e2] at e
    | some ts =>
      simp [pyD, e2] at e
      subst e
      obtain ⟨a, vs, rfl, hs, r⟩ := h.items e2
      exact .lst hs r.dp
  | ro us =>
    have e' : PyData.list (toPys us) = p := Option.some.inj e
    subst e'
    obtain ⟨a, vs, rfl, hs, r⟩ := h.items (ts := us) rfl
    exact .lst hs r.dp
  | u _ => cases e
  | c _ _ => cases e
theorem pyD_plain {p : PyData} (e : pyD d = some p) : p.plain = true := by
  unfold pyD at e
  split at e
  · cases e; exact plain_py _
  · cases e2 : items d with
    | none => rw [e2] at e; cases e
    | some ts => rw [e2] at e; cases e; simp only [PyData.plain]; exact plains_py ts
theorem okD_depth {p : PyData} (e : pyD d = some p) (h : okD d = true) : p.depth ≤ 32 := by
  cases d with
  | p t => cases e; exact depth_py 32 t h
  | l ds =>
    simp only [pyD, okD] at e h
    cases e2 : items (.l ds) with
    | none => rw [e2] at e; cases e
    | some ts =>
      rw [e2] at e h
      cases e
      have := depths_py 31 ts h
      simp only [PyData.depth]
      omega
  | ro us =>
    simp only [pyD, okD, items] at e h
    cases e
    have := depths_py 31 us h
    simp only [PyData.depth]
    omega
  | u _ => cases e
  | c _ _ => cases e
theorem eqD_py {b : Bool} (h : eqD d e = some b) : ∃ p p', pyD d = some p ∧ pyD e = some p' ∧ b = PyData.eqv p p' ∧ min p.depth p'.depth ≤ 32 := by
  have key : ∀ p p', pyD d = some p → pyD e = some p' → (okD d || okD e) = true → min p.depth p'.depth ≤ 32 := by
    intro p p' e1 e2 h
    rcases Bool.or_eq_true _ _ ▸ h with h | h
    · have := okD_depth e1 h; omega
    · have := okD_depth e2 h; omega
  cases d with
  | p t =>
    cases e with
    | p t' =>
      simp only [eqD] at h
      split at h
      · rename_i c
        cases h
        exact ⟨_, _, rfl, rfl, eqT_py _ _, key _ _ rfl rfl c⟩
      · cases h
    | l ds =>
      simp only [eqD] at h
      split at h
      · rename_i c
        cases e2 : items (.l ds) with
        | none => rw [e2] at h; cases h
        | some ts =>
          rw [e2] at h; cases h
          have e3 : pyD (.l ds) = some (.list (toPys ts)) := by simp [pyD, e2]
          refine ⟨_, _, rfl, e3, ?_, key _ _ rfl e3 c⟩
          cases t <;> simp [toPy, PyData.eqv]
      · cases h
    | ro us =>
      simp only [eqD] at h
      split at h
      · rename_i c
        cases h
        refine ⟨_, _, rfl, rfl, ?_, key _ _ rfl rfl c⟩
        cases t <;> simp [toPy, PyData.eqv]
      · cases h
    | u _ => simp [eqD, items] at h
    | c _ _ => simp [eqD, items] at h
  | l ds =>
    cases e1 : items (.l ds) with
    | none =>
      cases e <;> simp [eqD, e1] at h
    | some ts =>
      have e3 : pyD (.l ds) = some (.list (toPys ts)) := by simp [pyD, e1]
      cases e with
      | p t =>
        simp only [eqD] at h
        split at h
        · rename_i c
          rw [e1] at h; cases h
          refine ⟨_, _, e3, rfl, ?_, key _ _ e3 rfl c⟩
          cases t <;> simp [toPy, PyData.eqv]
        · cases h
      | l es =>
        simp only [eqD] at h
        split at h
        · rename_i c
          cases e2 : items (.l es) with
          | none => rw [e1, e2] at h; cases h
          | some us =>
            rw [e1, e2] at h; cases h
            have e4 : pyD (.l es) = some (.list (toPys us)) := by simp [pyD, e2]
            exact ⟨_, _, e3, e4, by rw [eqTs_py]; simp [PyData.eqv], key _ _ e3 e4 c⟩
        · cases h
      | ro us =>
        simp only [eqD] at h
        split at h
        · rename_i c
          rw [e1] at h
          simp only [items] at h
          cases h
          exact ⟨_, _, e3, rfl, by rw [eqTs_py]; simp [PyData.eqv], key _ _ e3 rfl c⟩
        · cases h
      | u _ => simp [eqD, items] at h
      | c _ _ => simp [eqD, items] at h
  | ro ts =>
    have e3 : pyD (.ro ts) = some (.list (toPys ts)) := rfl
    cases e with
    | p t =>
      simp only [eqD] at h
      split at h
      · rename_i c
        cases h
        refine ⟨_, _, e3, rfl, ?_, key _ _ e3 rfl c⟩
        cases t <;> simp [toPy, PyData.eqv]
      · cases h
    | l es =>
      simp only [eqD] at h
      split at h
      · rename_i c
        cases e2 : items (.l es) with
        | none => rw [e2] at h; simp [items] at h
        | some us =>
          rw [e2] at h
          simp only [items] at h
          cases h
          have e4 : pyD (.l es) = some (.list (toPys us)) := by simp [pyD, e2]
          exact ⟨_, _, e3, e4, by rw [eqTs_py]; simp [PyData.eqv], key _ _ e3 e4 c⟩
      · cases h
    | ro us =>
      simp only [eqD] at h
      split at h
      · rename_i c
        simp only [items] at h
        cases h
        exact ⟨_, _, e3, rfl, by rw [eqTs_py]; simp [PyData.eqv], key _ _ e3 rfl c⟩
      · cases h
    | u _ => simp [eqD, items] at h
    | c _ _ => simp [eqD, items] at h
  | u _ => cases e <;> simp [eqD, items, okD] at h
  | c _ _ => cases e <;> simp [eqD, items, okD] at h
def rEqP (K : PySem.W.Frag) (neg : Bool) : R2 := fun x y H Q => ∃ p p', Dp K H x p ∧ Dp K H y p' ∧ p.plain = true ∧ p'.plain = true ∧ min p.depth p'.depth ≤ 32 ∧ Q (.bl (if neg = true then !PyData.eqv p p' else PyData.eqv p p')) H
theorem or_eq {X : Cx} (hu : X.A.units + 64 < cLine) : OpR X (compareOp .Eq) (rEqP X.K false) := by
  intro pins s σ H x y v u Q I rx ry h
  obtain ⟨p, p', hd, he, sd, se, hz, q⟩ := h
  obtain ⟨as, r1⟩ := Dp.reads I p x v hd rx
  obtain ⟨bs, r2⟩ := Dp.reads I p' y u he ry
  exact SeqAt.eq_plain r1 r2 sd se (by omega) ⟨.bl _, H, I, rfl, q⟩
theorem or_ne {X : Cx} (hu : X.A.units + 64 < cLine) : OpR X (compareOp .NotEq) (rEqP X.K true) := by
  intro pins s σ H x y v u Q I rx ry h
  obtain ⟨p, p', hd, he, sd, se, hz, q⟩ := h
  obtain ⟨as, r1⟩ := Dp.reads I p x v hd rx
  obtain ⟨bs, r2⟩ := Dp.reads I p' y u he ry
  exact SeqAt.ne_plain r1 r2 sd se (by omega) ⟨.bl _, H, I, rfl, q⟩
theorem s_eq {neg : Bool} (h : eqOp neg [d, e] = some z) (hx : Rd K H x d) (hy : Rd K H y e) (q : Meet K H z Q) : rEqP K neg x y H Q := by
  simp only [eqOp] at h
  cases e1 : eqD d e with
  | none => rw [e1] at h; cases h
  | some b =>
    rw [e1] at h; cases h
    obtain ⟨p, p', h1, h2, h3, h4⟩ := eqD_py e1
    refine ⟨p, p', hx.dp h1, hy.dp h2, pyD_plain h1, pyD_plain h2, h4, ?_⟩
    rw [← h3]
    exact q _ _ (.bl _)
def rIs (neg : Bool) : R2 := fun x y H Q => (y = .non ∧ Q (.bl (if neg = true then !decide (x = .non) else decide (x = .non))) H) ∨ ∃ a b, x = .bl a ∧ y = .bl b ∧ Q (.bl (if neg = true then !decide (a = b) else decide (a = b))) H
theorem or_is {X : Cx} : OpR X (compareOp .Is) (rIs false) := op_isN.or op_is_bl
theorem or_isn {X : Cx} : OpR X (compareOp .IsNot) (rIs true) := op_notN.or op_isnot_bl
theorem Rd.notNon (hx : Rd K H x d) (h : d ≠ .p .non) : x ≠ .non := by
  rintro rfl
  obtain ⟨G, hx⟩ := hx
  cases hx with
  | p r => cases r; exact h rfl
theorem s_is {neg : Bool} (h : isD neg [d, e] = some z) (hx : Rd K H x d) (hy : Rd K H y e) (q : Meet K H z Q) : rIs neg x y H Q := by
  unfold isD at h
  split at h
  · rename_i a b heq
    cases heq; cases h
    rw [hx.bl, hy.bl]
    refine .inr ⟨a, b, rfl, rfl, ?_⟩
    exact q _ _ (.bl _)
  · rename_i heq
    cases heq; cases h
    rw [hx.non, hy.non]
    refine .inl ⟨rfl, ?_⟩
    have e : (if neg = true then !decide (V.non = V.non) else decide (V.non = V.non)) = !neg := by cases neg <;> rfl
    rw [e]
    exact q _ _ (.bl _)
  · rename_i d' hn1 hn2 heq
    cases heq; cases h
    rw [hy.non]
    refine .inl ⟨rfl, ?_⟩
    have hne : x ≠ .non := hx.notNon fun e => hn2 (by rw [e])
    have e : (if neg = true then !decide (x = V.non) else decide (x = V.non)) = neg := by
      cases neg <;> simp [hne]
    rw [e]
    exact q _ _ (.bl _)
  · cases h
theorem any_py (t : T) : ∀ ts : List T, (ts.any fun z => eqT z t) = (toPys ts).any fun z => PyData.eqv z (toPy t)
  | [] => rfl
  | x :: r => by
    have ih := any_py t r
    simp only [List.any_cons, toPys]
    rw [ih, eqT_py]
def rInP (K : PySem.W.Frag) (neg : Bool) : R2 := fun x y H Q => ∃ d ds a vs, Dp K H x d ∧ y = .ref a ∧ DpAll K H vs ds ∧ (SqL K H a vs ∨ SqT K H a vs) ∧ d.plain = true ∧ PyData.plainAll ds = true ∧ d.depth ≤ 32 ∧
  Q (.bl (if neg = true then !ds.any fun z => PyData.eqv z d else ds.any fun z => PyData.eqv z d)) H
theorem or_in {X : Cx} (hu : X.A.units + 65 < cLine) : OpR X (compareOp .In) (rInP X.K false) := by
  intro pins s σ H x y v u Q I rx ry h
  obtain ⟨d, ds, a, vs, hd, rfl, he, hs, sd, se, hz, q⟩ := h
  obtain ⟨as, r1⟩ := Dp.reads I d x v hd rx
  rcases hs with hs | hs
  · obtain ⟨bs, r2⟩ := Dp.reads I (.list ds) (.ref a) u (.lst hs he) ry
    exact SeqAt.in_list_data r2 r1 se sd (by omega) ⟨.bl _, H, I, rfl, q⟩
  · obtain ⟨bs, r2⟩ := Dp.reads I (.tuple ds) (.ref a) u (.tup hs he) ry
    exact SeqAt.in_tuple_data r2 r1 se sd (by omega) ⟨.bl _, H, I, rfl, q⟩
theorem or_nin {X : Cx} (hu : X.A.units + 65 < cLine) : OpR X (compareOp .NotIn) (rInP X.K true) := by
  intro pins s σ H x y v u Q I rx ry h
  obtain ⟨d, ds, a, vs, hd, rfl, he, hs, sd, se, hz, q⟩ := h
  obtain ⟨as, r1⟩ := Dp.reads I d x v hd rx
  rcases hs with hs | hs
  · obtain ⟨bs, r2⟩ := Dp.reads I (.list ds) (.ref a) u (.lst hs he) ry
    exact SeqAt.notIn_list_data r2 r1 se sd (by omega) ⟨.bl _, H, I, rfl, q⟩
  · obtain ⟨bs, r2⟩ := Dp.reads I (.tuple ds) (.ref a) u (.tup hs he) ry
    exact SeqAt.notIn_tuple_data r2 r1 se sd (by omega) ⟨.bl _, H, I, rfl, q⟩
theorem s_in {neg : Bool} (h : inD neg [d, e] = some z) (hx : Rd K H x d) (hy : Rd K H y e) (q : Meet K H z Q) : rInP K neg x y H Q := by
  unfold inD at h
  split at h
  · rename_i t d' heq
    cases heq
    split at h
    · rename_i ts e1
      split at h
      · rename_i hk
        cases h
        obtain ⟨a, vs, rfl, hs, r⟩ := hy.seq e1
        refine ⟨toPy t, toPys ts, a, vs, hx.rt.dp, rfl, r.dp, hs, plain_py t, plains_py ts, Nat.le_trans (depth_py 31 t hk) (by decide), ?_⟩
        rw [← any_py]
        exact q _ _ (.bl _)
      · cases h
    · cases h
  · cases h
end
end PF

set_option Elab.async false
set_option linter.all false
set_option maxRecDepth 100000
/-! PF7: the calls of built-ins are sound -/
namespace PF
open PySem PySem.Spec PyProof.Rows L2
section
variable {K : PySem.W.Frag} {H : Hp} {x y : V} {d e z : D} {Q : VK}

abbrev Rds (K : PySem.W.Frag) (H : Hp) : List V → List D → Prop := Paired (Rd K H)
/-- a call that answers as k says -/
def CS (X : Cx) (f : Value) (k : List D → Option D) : Prop := CallR X f fun xs H Q => ∃ ds z, Rds X.K H xs ds ∧ k ds = some z ∧ Meet X.K H z Q
theorem CallR.mono {X : Cx} {f : Value} {r r' : List V → Hp → VK → Prop} (h : CallR X f r) (i : ∀ xs H Q, r' xs H Q → r xs H Q) : CallR X f r' :=
  fun pins s σ H xs us Q I r q => h pins s σ H xs us Q I r (i _ _ _ q)
theorem CS.of {X : Cx} {f : Value} {k : List D → Option D} {r : List V → Hp → VK → Prop} (h : CallR X f r)
    (i : ∀ xs H Q ds z, Rds X.K H xs ds → k ds = some z → Meet X.K H z Q → r xs H Q) : CS X f k :=
  CallR.mono h fun xs H Q ⟨ds, z, r, e, q⟩ => i xs H Q ds z r e q
theorem rds1 {xs : List V} (r : Rds K H xs [d]) : ∃ x, xs = [x] ∧ Rd K H x d := by
  cases r with
  | cons h t => cases t; exact ⟨_, rfl, h⟩
theorem rds2 {xs : List V} (r : Rds K H xs [d, e]) : ∃ x y, xs = [x, y] ∧ Rd K H x d ∧ Rd K H y e := by
  cases r with
  | cons h t =>
    cases t with
    | cons h2 t => cases t; exact ⟨_, _, rfl, h, h2⟩
theorem Rd.seqs {ds : List D} (h : Rd K H x (.u ds)) : ∃ a vs G, x = .ref a ∧ SqT K H a vs ∧ OWs K H vs ds G := by
  obtain ⟨G, h⟩ := h
  cases h with
  | u h hs => exact ⟨_, _, _, rfl, h.t, hs⟩
theorem Rd.roS {ts : List T} (h : Rd K H x (.ro ts)) : ∃ a vs, x = .ref a ∧ SqF K H a vs ∧ RTs K H vs ts := by
  obtain ⟨G, h⟩ := h
  cases h with
  | ro h hs => exact ⟨_, _, rfl, h, hs⟩
theorem Rd.notC {ks : List T} {vs : List D} (h : Rd K H x (.c ks vs)) : False := by
  obtain ⟨G, h⟩ := h
  cases h

theorem cs_len {X : Cx} : CS X (.builtin "len") lenD := CS.of call_len fun xs H Q ds z r e q => by
  unfold lenD at e
  split at e
  · rename_i s
    split at e
    · rename_i hl
      cases e
      obtain ⟨x, rfl, h⟩ := rds1 r
      rw [h.str]
      exact ⟨_, s.length, rfl, ⟨by rw [← LIM_line]; exact hl, rfl⟩, q _ _ (.int _)⟩
    · cases e
  · cases e
    obtain ⟨x, rfl, h⟩ := rds1 r
    obtain ⟨a, vs, rfl, hs, rr⟩ := h.tup
    exact ⟨_, _, rfl, .inr ⟨vs, hs, rr.len.symm⟩, q _ _ (.int _)⟩
  · cases e
    obtain ⟨x, rfl, h⟩ := rds1 r
    obtain ⟨a, vs, G, rfl, hs, rr⟩ := h.lst
    exact ⟨_, _, rfl, .inl ⟨vs, .of hs, rr.len.symm⟩, q _ _ (.int _)⟩
  · cases e
    obtain ⟨x, rfl, h⟩ := rds1 r
    obtain ⟨a, vs, G, rfl, hs, rr⟩ := h.seqs
    exact ⟨_, _, rfl, .inr ⟨vs, hs, rr.len.symm⟩, q _ _ (.int _)⟩
  · cases e
    obtain ⟨x, rfl, h⟩ := rds1 r
    obtain ⟨a, vs, rfl, hs, rr⟩ := h.roS
    exact ⟨_, _, rfl, .inl ⟨vs, hs.l, rr.len.symm⟩, q _ _ (.int _)⟩
  · cases e
theorem cs_all {X : Cx} (hc : X.calm = true) : CS X (.builtin "all") (allD (·.all id)) := CS.of (cr_all hc) fun xs H Q ds z r e q => by
  unfold allD at e
  split at e
  · split at e
    · rename_i d ts e1
      cases e2 : blsOf ts with
      | none => rw [e2] at e; cases e
      | some bs =>
        rw [e2] at e; cases e
        obtain ⟨x, rfl, h⟩ := rds1 r
        obtain ⟨a, vs, rfl, hs, rr⟩ := h.items e1
        rw [rr.blss e2] at hs
        exact ⟨a, bs, rfl, hs, q _ _ (.bl _)⟩
    · cases e
  · cases e
theorem cs_any {X : Cx} (hc : X.calm = true) : CS X (.builtin "any") (allD (·.any id)) := CS.of (cr_any hc) fun xs H Q ds z r e q => by
  unfold allD at e
  split at e
  · split at e
    · rename_i d ts e1
      cases e2 : blsOf ts with
      | none => rw [e2] at e; cases e
      | some bs =>
        rw [e2] at e; cases e
        obtain ⟨x, rfl, h⟩ := rds1 r
        obtain ⟨a, vs, rfl, hs, rr⟩ := h.items e1
        rw [rr.blss e2] at hs
        exact ⟨a, bs, rfl, hs, q _ _ (.bl _)⟩
    · cases e
  · cases e
theorem cs_sum {X : Cx} (hc : X.calm = true) : CS X (.builtin "sum") sumD := CS.of (cr_sum hc) fun xs H Q ds z r e q => by
  unfold sumD at e
  split at e
  · split at e
    · rename_i d ts e1
      cases e2 : intsOf ts with
      | none => rw [e2] at e; cases e
      | some bs =>
        rw [e2] at e; cases e
        obtain ⟨x, rfl, h⟩ := rds1 r
        obtain ⟨a, vs, rfl, hs, rr⟩ := h.items e1
        rw [rr.ints e2] at hs
        exact ⟨a, bs, rfl, hs, q _ _ (.int _)⟩
    · cases e
  · cases e
/-- the least or the greatest of data -/
theorem best_py {b : T → T → Bool} {c : PyData → PyData → Bool} {ok : T → Prop} (hc : ∀ t u, ok t → ok u → b t u = c (toPy t) (toPy u)) : ∀ (r : List T) (x : T), ok x → (∀ y ∈ r, ok y) → ok (r.foldl (fun a y => if b y a then y else a) x) ∧ toPy (r.foldl (fun a y => if b y a then y else a) x) = (r.map toPy).foldl (fun a y => if c y a then y else a) (toPy x) ∧ r.foldl (fun a y => if b y a then y else a) x ∈ x :: r
  | [], x, hx, _ => ⟨hx, rfl, List.mem_cons_self⟩
  | y :: r, x, hx, h => by
    have hy := h y List.mem_cons_self
    have hr := fun z hz => h z (List.mem_cons_of_mem _ hz)
    simp only [List.foldl_cons, List.map_cons]
    rw [← hc y x hy hx]
    by_cases k : b y x = true
    · rw [if_pos k, if_pos k]
      obtain ⟨h1, h2, h3⟩ := best_py hc r y hy hr
      exact ⟨h1, h2, List.mem_cons_of_mem _ h3⟩
    · rw [if_neg k, if_neg k]
      obtain ⟨h1, h2, h3⟩ := best_py hc r x hx hr
      refine ⟨h1, h2, ?_⟩
      rcases List.mem_cons.mp h3 with e | e
      · rw [e]; exact List.mem_cons_self
      · exact List.mem_cons_of_mem _ (List.mem_cons_of_mem _ e)
theorem depthAll_le {n : Nat} {ts : List T} (h : ts.all (okT n) = true) : PyData.depthAll (toPys ts) ≤ n := depths_py n ts h
/-- a sequence as it stands in the heap -/
theorem seq_readsS {X : Cx} {pins : List (Addr × Obj)} {s : Shared} {σ : L2.St} {H : Hp} {x : V} {v : Value} {d : D} {ts : List T} (I : Inv X pins σ H s) (rx : RelV x v) (h : Rd X.K H x d) (e : seqT d = some ts) :
    ∃ a vs its as, x = .ref a ∧ v = .ref a ∧ RTs X.K H vs ts ∧ Vals vs its ∧ its.length ≤ sizeLine ∧ ReadsAll s.heap its (toPys ts) as ∧ ((s.heap.IsList a its.toArray ∧ SqL X.K H a vs ∧ items d = some ts) ∨ (s.heap.IsTuple a its.toArray ∧ SqT X.K H a vs)) := by
  unfold seqT at e
  split at e
  · cases e
    obtain ⟨a, vs, rfl, hs, r⟩ := h.tup
    cases rx
    obtain ⟨its, rv, p, hz⟩ := I.tuple hs
    obtain ⟨as, h4⟩ := Dp.readsAll I (toPys ts) _ its r.dp rv
    exact ⟨a, vs, its, as, rfl, rfl, r, rv, by rw [← rv.length]; exact hz, h4, .inr ⟨p, hs⟩⟩
  · obtain ⟨a, vs, rfl, hs, r⟩ := h.items e
    cases rx
    obtain ⟨its, rv, p, hz⟩ := I.list hs
    obtain ⟨as, h4⟩ := Dp.readsAll I (toPys ts) _ its r.dp rv
    exact ⟨a, vs, its, as, rfl, rfl, r, rv, by rw [← rv.length]; exact hz, h4, .inl ⟨p.isList, hs, e⟩⟩
theorem alikeAll_py {ts : List T} (h : allAl ts = true) : PySem.W.AlikeAll (toPys ts) := by
  rw [toPys_map]
  refine ⟨fun x hx y hy => ?_, fun x hx => ?_⟩
  · obtain ⟨t, ht, rfl⟩ := List.mem_map.mp hx
    obtain ⟨u, hu, rfl⟩ := List.mem_map.mp hy
    exact (allAl_py h t ht u hu).1
  · obtain ⟨t, ht, rfl⟩ := List.mem_map.mp hx
    exact (allAl_py h t ht t ht).2
theorem vals_getV : ∀ {vs : List V} {us : List Value} {i : Nat} {u : Value}, Vals vs us → us[i]? = some u → ∃ v, vs[i]? = some v ∧ RelV v u
  | _, _, _, _, .nil, e => by simp at e
  | _, _, 0, _, .cons h _, e => by simp at e; subst e; exact ⟨_, rfl, h⟩
  | _, _, i + 1, _, .cons _ hs, e => by
    obtain ⟨v, h1, h2⟩ := vals_getV (i := i) hs (by simpa using e)
    exact ⟨v, by simpa using h1, h2⟩
theorem toPy_inj_at {ts : List T} {i : Nat} {v : V} {vs : List V} (r : RTs K H vs ts) (h : vs[i]? = some v) : ∃ t, ts[i]? = some t ∧ RT K H v t := by
  have hl : i < ts.length := by rw [← r.len]; exact (List.getElem?_eq_some_iff.mp h).1
  obtain ⟨w, h1, h2⟩ := r.get (List.getElem?_eq_getElem hl)
  rw [h] at h1
  cases h1
  exact ⟨_, List.getElem?_eq_getElem hl, h2⟩

mutual
theorem toPy_inj : ∀ a b : T, toPy a = toPy b → a = b
  | .non, .non, _ => rfl
  | .bl _, .bl _, h => by simp [toPy] at h; rw [h]
  | .int _, .int _, h => by simp [toPy] at h; rw [h]
  | .str _, .str _, h => by simp [toPy] at h; rw [h]
  | .tup xs, .tup ys, h => by simp [toPy] at h; rw [toPys_inj xs ys h]
  | .non, .bl _, h | .non, .int _, h | .non, .str _, h | .non, .tup _, h => by simp [toPy] at h
  | .bl _, .non, h | .bl _, .int _, h | .bl _, .str _, h | .bl _, .tup _, h => by simp [toPy] at h
  | .int _, .non, h | .int _, .bl _, h | .int _, .str _, h | .int _, .tup _, h => by simp [toPy] at h
  | .str _, .non, h | .str _, .bl _, h | .str _, .int _, h | .str _, .tup _, h => by simp [toPy] at h
  | .tup _, .non, h | .tup _, .bl _, h | .tup _, .int _, h | .tup _, .str _, h => by simp [toPy] at h
theorem toPys_inj : ∀ xs ys : List T, toPys xs = toPys ys → xs = ys
  | [], [], _ => rfl
  | [], _ :: _, h => by simp [toPys] at h
  | _ :: _, [], h => by simp [toPys] at h
  | x :: xs, y :: ys, h => by
    simp only [toPys, List.cons.injEq] at h
    rw [toPy_inj x y h.1, toPys_inj xs ys h.2]
end
theorem cs_mx {X : Cx} (hc : X.calm = true) (hu : X.A.units + 65 < cLine) {id : String} {b : T → T → Bool} {c : PyData → PyData → Bool} (hbc : ∀ t u, alT t u = true → b t u = c (toPy t) (toPy u))
    (K1 : ∀ {pins : List (Addr × Obj)} {s : Shared} {σ : L2.St} {H : Hp} {l : Addr} {vs : Array Value} {x : PyData} {xs : List PyData} {as : List Addr} {Q : Value → Shared → Prop} (I : Inv X pins σ H s) (hl : s.heap.IsList l vs ∨ s.heap.IsTuple l vs) (hr : ReadsAll s.heap vs.toList (x :: xs) as) (ha : PySem.W.AlikeAll (x :: xs)) (hu : X.A.units + 1 + PyData.depthAll (x :: xs) < cLine)
      (h : ∀ (i : Nat) v h' tk bs, vs[i]? = some v → Reads h' v (xs.foldl (fun a y => if c y a then y else a) x) bs → (∀ b o, s.heap.get? b = some o → h'.get? b = some o) → Q v { s with heap := h', toks := tk }), wpAny (model X.prog X.w) X.A (call (.builtin id) [.ref l]) Q X.xe s) :
    CS X (.builtin id) (mxD b) := by
  intro pins s σ H xs us Q I r ⟨ds, z, rr, e, q⟩
  unfold mxD at e
  split at e
  · rename_i d
    split at e
    · rename_i ts e1
      split at e
      · rename_i hk
        simp only [Bool.and_eq_true] at hk
        obtain ⟨x, rfl, hx⟩ := rds1 rr
        cases ts with
        | nil => cases e
        | cons t ts =>
          have e : some (D.p (ts.foldl (fun a y => if b y a then y else a) t)) = some z := e
          cases e
          obtain ⟨v0, rfl, rv0⟩ := vals1 r
          obtain ⟨a, vs, its, as, rfl, rfl, rt, rv, hz, hr, hsq⟩ := seq_readsS I rv0 hx e1
          have hr : ReadsAll s.heap its.toArray.toList (toPy t :: toPys ts) as := hr
          refine K1 I (hsq.imp (fun h => h.1) fun h => h.1) hr (alikeAll_py hk.1) (by have := depthAll_le hk.2; have e : toPys (t :: ts) = toPy t :: toPys ts := rfl; rw [e] at this; omega) fun i v h' tk bs hv hrd kp => ?_
          have hv : its[i]? = some v := by simpa using hv
          obtain ⟨v1, g1, g2⟩ := vals_getV rv hv
          obtain ⟨t1, g3, g4⟩ := toPy_inj_at rt g1
          obtain ⟨bs1, g5⟩ := Dp.reads I _ v1 v g4.dp g2
          have g6 := PySem.SeqAt.plain_unique _ _ v _ _ (plain_py t1) (PySem.W.reads_keeps kp g5) hrd
          obtain ⟨_, g7, _⟩ := best_py (ok := fun u => u ∈ t :: ts) (fun t' u' h1 h2 => hbc t' u' (List.all_eq_true.mp (List.all_eq_true.mp hk.1 _ h1) _ h2)) ts t List.mem_cons_self fun y hy => List.mem_cons_of_mem _ hy
          rw [toPys_map, ← g7] at g6
          have g8 := toPy_inj _ _ g6
          subst g8
          exact ⟨v1, H, I.kept kp, g2, q _ _ (.p g4)⟩
      · cases e
    · cases e
  · cases e
theorem cs_min1 {X : Cx} (hc : X.calm = true) (hu : X.A.units + 65 < cLine) : CS X (.builtin "min") (mxD ltT) :=
  cs_mx hc hu (c := PySem.W.dataLt) ltT_py fun I hl hr ha hu h => hl.elim (fun hl => PySem.W.min_list_data (I.ok.hd hc) hl hr ha hu h) fun hl => PySem.W.min_tuple_data (I.ok.hd hc) hl hr ha hu h
theorem cs_max1 {X : Cx} (hc : X.calm = true) (hu : X.A.units + 65 < cLine) : CS X (.builtin "max") (mxD fun y a => ltT a y) :=
  cs_mx hc hu (c := fun y a => PySem.W.dataLt a y) (fun t u h => ltT_py u t (by rw [alT_comm]; exact h)) fun I hl hr ha hu h => hl.elim (fun hl => PySem.W.max_list_data (I.ok.hd hc) hl hr ha hu h) fun hl => PySem.W.max_tuple_data (I.ok.hd hc) hl hr ha hu h
theorem cs_max3 {X : Cx} (hc : X.calm = true) : CS X (.builtin "max") max3D := CS.of (call_max3Nu hc) fun xs H Q ds z r e q => by
  unfold max3D at e
  split at e
  · rename_i a b c
    cases e
    cases r with
    | cons h1 r =>
      cases r with
      | cons h2 r =>
        cases r with
        | cons h3 r =>
          cases r
          rw [h1.int, h2.int, h3.int]
          refine ⟨_, _, _, .int (max (max a b) c), rfl, ?_, q _ _ (.int _)⟩
          have k : ∀ a b : Int, nuMax2 (.int a) (.int b) = some (.int (max a b)) := fun a b => by
            simp only [nuMax2]
            by_cases h : a < b
            · have e : max a b = b := by omega
              rw [e]; simp [nuLt, nuCB, h]
            · have e : max a b = a := by omega
              rw [e]; simp [nuLt, nuCB, h]
          simp only [nuMax3, k, Option.bind_some]
  · cases e
theorem cs_min3 {X : Cx} (hc : X.calm = true) : CS X (.builtin "min") min3D := CS.of (call_min3Nu hc) fun xs H Q ds z r e q => by
  unfold min3D at e
  split at e
  · rename_i a b c
    cases e
    cases r with
    | cons h1 r =>
      cases r with
      | cons h2 r =>
        cases r with
        | cons h3 r =>
          cases r
          rw [h1.int, h2.int, h3.int]
          refine ⟨_, _, _, .int (min (min a b) c), rfl, ?_, q _ _ (.int _)⟩
          have k : ∀ a b : Int, nuMin2 (.int a) (.int b) = some (.int (min a b)) := fun a b => by
            simp only [nuMin2]
            by_cases h : b < a
            · have e : min a b = b := by omega
              rw [e]; simp [nuLt, nuCB, h]
            · have e : min a b = a := by omega
              rw [e]; simp [nuLt, nuCB, h]
          simp only [nuMin3, k, Option.bind_some]
  · cases e
theorem cs_max2 {X : Cx} (hc : X.calm = true) : CS X (.builtin "max") max2D := CS.of (call_max2 hc) fun xs H Q ds z r e q => by
  unfold max2D at e
  split at e
  · cases e
    obtain ⟨x, y, rfl, hx, hy⟩ := rds2 r
    rw [hx.int, hy.int]
    exact ⟨_, _, rfl, q _ _ (.int _)⟩
  · cases e
theorem cs_min2 {X : Cx} (hc : X.calm = true) : CS X (.builtin "min") min2D := CS.of (call_min2 hc) fun xs H Q ds z r e q => by
  unfold min2D at e
  split at e
  · cases e
    obtain ⟨x, y, rfl, hx, hy⟩ := rds2 r
    rw [hx.int, hy.int]
    exact ⟨_, _, rfl, q _ _ (.int _)⟩
  · cases e
theorem cs_abs {X : Cx} : CS X (.builtin "abs") absD := CS.of call_abs fun xs H Q ds z r e q => by
  unfold absD at e
  split at e
  · cases e
    obtain ⟨x, rfl, hx⟩ := rds1 r
    rw [hx.int]
    exact ⟨_, rfl, q _ _ (.int _)⟩
  · cases e
theorem cs_int {X : Cx} : CS X (.type "int") intD := CS.of call_int1 fun xs H Q ds z r e q => by
  unfold intD at e
  split at e
  · cases e
    obtain ⟨x, rfl, hx⟩ := rds1 r
    rw [hx.int]
    exact .inl ⟨_, rfl, q _ _ (.int _)⟩
  · cases e
    obtain ⟨x, rfl, hx⟩ := rds1 r
    rw [hx.bl]
    exact .inr ⟨_, rfl, q _ _ (.int _)⟩
  · cases e
theorem cs_str {X : Cx} : CS X (.type "str") strD := CS.of call_str_int fun xs H Q ds z r e q => by
  unfold strD at e
  split at e
  · split at e
    · rename_i hl
      cases e
      obtain ⟨x, rfl, hx⟩ := rds1 r
      rw [hx.int]
      exact ⟨_, rfl, hl, q _ _ (.p (.str _))⟩
    · cases e
  · cases e
/-- tuple(x) -/
def rTupF (K : PySem.W.Frag) : List V → Hp → VK → Prop := fun xs H Q => ∃ p ys, xs = [.ref p] ∧ ((SqL K H p ys ∧ ∀ l (o : Obj), H l = none → o.dict = none → Q (.ref l) (upd H l (.frz o (.tup ys)))) ∨ (SqT K H p ys ∧ Q (.ref p) H))
theorem call_tupF {X : Cx} : CallR X (.type "tuple") (rTupF X.K) := by
  intro pins s σ H xs us Q I r ⟨p, ys, ex, h⟩
  subst ex
  rw [Vals.ref1 r]
  rcases h with ⟨hq, q⟩ | ⟨hq, q⟩
  · obtain ⟨its, rv, pl, hz⟩ := I.list hq
    refine call_tuple_list pl.isList (fun h1 k1 => ?_) (by rw [List.size_toArray, ← rv.length]; exact hz)
    have hg := Heap.get?_push_size h1 (o := { cls := .type "tuple", data := .seq its.toArray }) rfl
    have I1 : Inv X pins σ H { s with heap := h1 } := I.kept (t' := s.toks) k1
    exact ⟨.ref h1.objs.size, _, I1.laid (t' := s.toks) (o := .frz { cls := .type "tuple", data := .seq its.toArray } (.tup ys)) (fun b o e => Heap.get?_push_of_some _ e) (Nat.le_refl _) ⟨hg, hz, its, rv, ⟨_, hg, rfl, _, rfl⟩⟩, rfl, q _ _ (I1.hok.fresh (Nat.le_refl _)) rfl⟩
  · obtain ⟨its, rv, pl, _⟩ := I.tuple hq
    exact call_tuple_same pl ⟨.ref p, H, I, rfl, q⟩
theorem cs_tuple {X : Cx} : CS X (.type "tuple") tupleD := CS.of call_tupF fun xs H Q ds z r e q => by
  unfold tupleD at e
  split at e
  · rename_i d
    cases e1 : seqT d with
    | none => rw [e1] at e; cases e
    | some ts =>
      rw [e1] at e; cases e
      obtain ⟨x, rfl, hx⟩ := rds1 r
      unfold seqT at e1
      split at e1
      · cases e1
        obtain ⟨a, vs, rfl, hs, rr⟩ := hx.tupD
        exact ⟨a, vs, rfl, .inr ⟨hs.t, q _ _ (.p (.tup hs rr))⟩⟩
      · obtain ⟨a, vs, rfl, hs, rr⟩ := hx.items e1
        exact ⟨a, vs, rfl, .inl ⟨hs, fun l o hl ho => q _ _ (.tup hl ho rr)⟩⟩
  · cases e
theorem cs_list {X : Cx} : CS X (.type "list") listD := CS.of call_list_of fun xs H Q ds z r e q => by
  unfold listD at e
  split at e
  · rename_i d
    cases e1 : seqT d with
    | none => rw [e1] at e; cases e
    | some ts =>
      rw [e1] at e; cases e
      obtain ⟨x, rfl, hx⟩ := rds1 r
      obtain ⟨a, vs, rfl, hs, rr⟩ := hx.seq e1
      exact ⟨a, vs, rfl, hs, fun l hl => q _ _ (.list hl rr)⟩
  · cases e

/-! ### isinstance -/
theorem SqL.ty {a : Addr} {vs : List V} (h : SqL K H a vs) : TyX K H (.ref a) (.type "list") := by
  rcases h with (h | ⟨o, h⟩) | ⟨o, its, n, h1, h2, _⟩
  · exact .base (.lst h)
  · exact .base (.frz h)
  · exact .kList h1 h2
theorem SqT.ty {a : Addr} {vs : List V} (h : SqT K H a vs) : TyX K H (.ref a) (.type "tuple") := by
  rcases h with (h | ⟨o, h⟩) | ⟨o, its, n, h1, h2, _⟩
  · exact .base (.tup h)
  · exact .fTuple h
  · exact .kTuple h1 h2
theorem tyOf {t : String} (h : Rd K H x d) (e : tyName d = some t) : TyX K H x (.type t) := by
  cases d with
  | p s =>
    cases s with
    | non => cases e; rw [h.non]; exact .base .non
    | bl b => cases e; rw [h.bl]; exact .base (.bl b)
    | int i => cases e; rw [h.int]; exact .base (.int i)
    | str z => cases e; rw [h.str]; exact .base (.str z)
    | tup ts => cases e; obtain ⟨a, vs, rfl, hs, _⟩ := h.tup; exact SqT.ty hs
  | l ds => cases e; obtain ⟨a, vs, G, rfl, hs, _⟩ := h.lst; exact .base (.lst hs)
  | u ds => cases e; obtain ⟨a, vs, G, rfl, hs, _⟩ := h.seqs; exact SqT.ty hs
  | ro ts => cases e; obtain ⟨a, vs, rfl, hs, _⟩ := h.roS; exact SqL.ty hs.l
  | c ks vs => exact h.notC.elim
def isiTys : List String := ["NoneType", "bool", "int", "str", "tuple", "list", "dict"]
def isiNms : List String := ["int", "bool", "str", "tuple", "list", "dict"]
theorem isi_all : (isiTys.all fun t => isiNms.all fun n => kitB t n == isiB t n) = true := by decide +kernel
theorem isi_kit {t n : String} {b : Bool} (ht : t ∈ isiTys) (h : isiB t n = some b) : kitB t n = some b := by
  have hn : n ∈ isiNms := by
    unfold isiB at h
    split at h
    · rename_i c
      simp only [isiNms, List.mem_cons, List.not_mem_nil, or_false]
      exact c
    · cases h
  have := List.all_eq_true.mp (List.all_eq_true.mp isi_all t ht) n hn
  rw [eq_of_beq this]; exact h
theorem tyName_mem {t : String} (e : tyName d = some t) : t ∈ isiTys := by
  unfold tyName at e
  split at e <;> cases e <;> simp [isiTys]
/-- isinstance(x, n): the class n is a value -/
def rIsiN (K : PySem.W.Frag) (n : String) : List V → Hp → VK → Prop := fun xs H Q => ∃ x d z, xs = [x, .ty n] ∧ Rd K H x d ∧ isiD n [d] = some z ∧ Meet K H z Q
theorem cs_isi {X : Cx} {n : String} : CallR X (.builtin "isinstance") (rIsiN X.K n) := CallR.mono call_isi fun xs H Q ⟨x, d, z, ex, h, e, q⟩ => by
  unfold isiD at e
  cases e1 : tyName d with
  | none => simp only [e1] at e; cases e
  | some t =>
    simp only [e1] at e
    cases e2 : isiB t n with
    | none => rw [e2] at e; cases e
    | some b =>
      rw [e2] at e; cases e
      exact ⟨x, .ty n, _, _, b, ex, .ty n, tyOf h e1, kit_ty (isi_kit (tyName_mem e1) e2), q _ _ (.bl _)⟩

/-! ### sorted, of a list or a tuple -/
theorem sortI_perm : ∀ is : List Int, (sortI is).Perm is
  | [] => .nil
  | x :: r => by
    have h : ∀ l : List Int, (insI x l).Perm (x :: l) := fun l => by
      induction l with
      | nil => exact .refl _
      | cons y l ih =>
        unfold insI
        split
        · exact .refl _
        · exact ((ih.cons y).trans (.swap x y l))
    exact (h _).trans ((sortI_perm r).cons x)
theorem sortI_sorted : ∀ is : List Int, (sortI is).Pairwise (· ≤ ·)
  | [] => .nil
  | x :: r => by
    have h : ∀ l : List Int, l.Pairwise (· ≤ ·) → (insI x l).Pairwise (· ≤ ·) := fun l hl => by
      induction l with
      | nil => simp [insI]
      | cons y l ih =>
        rw [List.pairwise_cons] at hl
        unfold insI
        split
        · rename_i hxy
          refine List.pairwise_cons.mpr ⟨fun z hz => ?_, List.pairwise_cons.mpr hl⟩
          rcases List.mem_cons.mp hz with rfl | hz
          · exact hxy
          · exact Int.le_trans hxy (hl.1 z hz)
        · rename_i hxy
          refine List.pairwise_cons.mpr ⟨fun z hz => ?_, ih hl.2⟩
          have hm : z ∈ x :: l := by
            have hp : ∀ l : List Int, (insI x l).Perm (x :: l) := fun l => by
              induction l with
              | nil => exact .refl _
              | cons y l ih =>
                unfold insI
                split
                · exact .refl _
                · exact ((ih.cons y).trans (.swap x y l))
            exact (hp l).mem_iff.mp hz
          rcases List.mem_cons.mp hm with rfl | hm
          · omega
          · exact hl.1 z hm
    exact h _ (sortI_sorted r)
theorem sorted_uniq {xs ys : List Int} (h1 : xs.Pairwise (· ≤ ·)) (h2 : ys.Pairwise (· ≤ ·)) (p : xs.Perm ys) : xs = ys :=
  p.eq_of_pairwise (le := fun a b => a ≤ b) (fun a b _ _ h h' => Int.le_antisymm h h') h1 h2
/-- a list or a tuple, as an object -/
def SeqObj (h : Heap) (l : Addr) (vs : List Value) : Prop := ∃ (T : String) (o : Obj) (n : Nat), (T = "list" ∨ T = "tuple") ∧ h.get? l = some o ∧ o.cls = .type T ∧ o.data = .seq vs.toArray n
theorem sorted_seq {prog : Program} {w : World} {A : Around} {E : Value → Shared → Prop} {s : Shared} {l : Addr} {vs : List Value} {ns : List Int} {Q : Value → Shared → Prop} (hl : SeqObj s.heap l vs) (hz : vs.length ≤ sizeLine) (hi : IntsAre vs ns)
    (h : ∀ (h1 h' : Heap) (out : List Value) (n : Nat), (∀ b o, s.heap.get? b = some o → h1.get? b = some o) → (∀ b o, h1.get? b = some o → h'.get? b = some o) → h'.get? h1.objs.size = some (seqObj "list" out.toArray n) → IntsAre out (out.map SrtO.iv) → (out.map SrtO.iv).Perm ns → (out.map SrtO.iv).Pairwise (· ≤ ·) → Q (.ref h1.objs.size) { s with heap := h' }) :
    wpAny (model prog w) A (call (.builtin "sorted") [.ref l]) Q E s := by
  obtain ⟨T, o, n, hT, ho, hc, hd⟩ := hl
  refine Calls.call_function_entry kind_sorted plain_sorted entry_sorted (args_sorted1 _) ?_
  unfold Builtin.«sorted»
  refine wpAny_bind (m := checkCount "sorted" 1 1 _) (wpAny_pure ?_)
  refine wpAny_bind (wpAny_collect_seq l hT ho hc hd (fun h1 k1 => ?_) (by rw [List.size_toArray]; exact hz))
  have e : vs.toArray.toList = vs := rfl
  rw [e]
  refine wpAny_bind (wpAny_newList ?_ hz)
  have hoL : (h1.push (seqObj "list" vs.toArray 0)).get? h1.objs.size = some (seqObj "list" vs.toArray 0) := Heap.get?_push_size _ rfl
  show wpAny _ _ _ _ _ { s with heap := h1.push (seqObj "list" vs.toArray 0) }
  refine wpAny_bind (wpAny_holding (wpAny_call_entry slot_list_sort ⟨_, hoL, rfl⟩ entry_list_sort (SrtO.list_sort_ord (s := { s with heap := h1.push (seqObj "list" vs.toArray 0) }) SrtO.swo_int hoL hz (fun h2 => SrtO.ints_sortable hi h2) fun out hs hb => ⟨_, rfl, ?_⟩) (args_list_sort _)))
  obtain ⟨q1, q2, q3⟩ := SrtO.ints_out hi hs hb
  obtain ⟨ep, he'⟩ := PyProof.Rows.sortedHeap_at (vs := vs) (out := out.toArray) hoL
  refine wpAny_pure ⟨_, rfl, h h1 _ out ep k1 (fun b ob e1 => ?_) he' q1 q2 q3⟩
  have hb' : b ≠ h1.objs.size := Nat.ne_of_lt (Heap.lt_size e1)
  have e2 : (h1.push (seqObj "list" vs.toArray 0)).get? b = some ob := Heap.get?_push_of_some _ e1
  exact (PyProof.Rows.sortedHeap_old hb' (Heap.lt_size e2)).trans e2
theorem vals_ints {us : List Value} {is : List Int} (r : Vals (is.map V.int) us) : IntsAre us is := r.ints
/-- one item at most -/
theorem sorted_short {prog : Program} {w : World} {A : Around} {E : Value → Shared → Prop} {s : Shared} {l : Addr} {vs : List Value} {Q : Value → Shared → Prop} (hl : SeqObj s.heap l vs) (hz : vs.length ≤ sizeLine) (hi : vs.length ≤ 1)
    (h : ∀ (h1 h' : Heap) (n : Nat), (∀ b o, s.heap.get? b = some o → h1.get? b = some o) → (∀ b o, h1.get? b = some o → h'.get? b = some o) → h'.get? h1.objs.size = some (seqObj "list" vs.toArray n) → Q (.ref h1.objs.size) { s with heap := h' }) :
    wpAny (model prog w) A (call (.builtin "sorted") [.ref l]) Q E s := by
  obtain ⟨T, o, n, hT, ho, hc, hd⟩ := hl
  refine Calls.call_function_entry kind_sorted plain_sorted entry_sorted (args_sorted1 _) ?_
  unfold Builtin.«sorted»
  refine wpAny_bind (m := checkCount "sorted" 1 1 _) (wpAny_pure ?_)
  refine wpAny_bind (wpAny_collect_seq l hT ho hc hd (fun h1 k1 => ?_) (by rw [List.size_toArray]; exact hz))
  have e : vs.toArray.toList = vs := rfl
  rw [e]
  refine wpAny_bind (wpAny_newList ?_ hz)
  have hoL : (h1.push (seqObj "list" vs.toArray 0)).get? h1.objs.size = some (seqObj "list" vs.toArray 0) := Heap.get?_push_size _ rfl
  show wpAny _ _ _ _ _ { s with heap := h1.push (seqObj "list" vs.toArray 0) }
  refine wpAny_bind (wpAny_holding (wpAny_call_entry slot_list_sort ⟨_, hoL, rfl⟩ entry_list_sort (SrtO.list_sort_ord (s := { s with heap := h1.push (seqObj "list" vs.toArray 0) }) SrtO.swo_int hoL hz (fun h2 => absurd hi (by omega)) fun out hs hb => ⟨_, rfl, ?_⟩) (args_list_sort _)))
  have eo : out = vs := by
    have hp := hb.perm
    match vs, hi, hp with
    | [], _, hp => exact hp.eq_nil
    | [x], _, hp => exact List.perm_singleton.mp hp
    | _ :: _ :: _, hi, _ => simp at hi
  subst eo
  obtain ⟨ep, he'⟩ := PyProof.Rows.sortedHeap_at (vs := out) (out := out.toArray) hoL
  refine wpAny_pure ⟨_, rfl, h h1 _ ep k1 (fun b ob e1 => ?_) he'⟩
  have hb' : b ≠ h1.objs.size := Nat.ne_of_lt (Heap.lt_size e1)
  have e2 : (h1.push (seqObj "list" out.toArray 0)).get? b = some ob := Heap.get?_push_of_some _ e1
  exact (PyProof.Rows.sortedHeap_old hb' (Heap.lt_size e2)).trans e2
theorem each_rts {X : Cx} {vs : List V} {ts : List T} (r : RTs X.K H vs ts) : ∀ {us : List Value}, Vals vs us → PySem.W.EachIs (fun u t => ∃ v, RelV v u ∧ RT X.K H v t) us ts := by
  induction vs generalizing ts with
  | nil => intro us rv; cases r; cases rv; exact .nil
  | cons v vs ih =>
    intro us rv
    cases r with
    | cons h hs =>
      cases rv with
      | cons a b => exact .cons ⟨_, a, h⟩ (ih hs b)
theorem each_back {K : PySem.W.Frag} {ts : List T} {us : List Value} (h : PySem.W.EachIs (fun u t => ∃ v, RelV v u ∧ RT K H v t) us ts) : ∃ vs, Vals vs us ∧ RTs K H vs ts := by
  induction h with
  | nil => exact ⟨[], .nil, .nil⟩
  | cons h _ ih =>
    obtain ⟨v, h1, h2⟩ := h
    obtain ⟨vs, h3, h4⟩ := ih
    exact ⟨v :: vs, .cons h1 h3, .cons h2 h4⟩
theorem cs_sorted {X : Cx} (hu : X.A.units + 65 < cLine) : CS X (.builtin "sorted") sortedD := by
  intro pins s σ H xs us Q I r ⟨ds, z, rr, e, q⟩
  unfold sortedD at e
  split at e
  · rename_i d
    split at e
    · rename_i ts e1
      split at e
      · rename_i is e2
        · cases e
          obtain ⟨x, rfl, hx⟩ := rds1 rr
          obtain ⟨a, vs, rfl, hs, rt⟩ := hx.seq e1
          rw [rt.ints e2] at hs
          rw [Vals.ref1 r]
          obtain ⟨its, rv, so, hz, hz'⟩ : ∃ its : List Value, Vals (is.map V.int) its ∧ SeqObj s.heap a its ∧ its.length ≤ sizeLine ∧ (is.map V.int).length ≤ sizeLine := by
            rcases hs with hs | hs
            · obtain ⟨its, rv, p, hz⟩ := I.list hs
              obtain ⟨o, h1, h2, n, h3⟩ := p.isList
              exact ⟨its, rv, ⟨"list", o, n, .inl rfl, h1, h2, h3⟩, by rw [← rv.length]; exact hz, hz⟩
            · obtain ⟨its, rv, p, hz⟩ := I.tuple hs
              obtain ⟨o, h1, h2, n, h3⟩ := p
              exact ⟨its, rv, ⟨"tuple", o, n, .inr rfl, h1, h2, h3⟩, by rw [← rv.length]; exact hz, hz⟩
          refine sorted_seq so hz (vals_ints rv) fun h1 h' out n k1 k2 he k3 k4 k5 => ?_
          have I1 : Inv X pins σ H { s with heap := h1 } := I.kept (t' := s.toks) k1
          have e3 : out.map SrtO.iv = sortI is := sorted_uniq k5 (sortI_sorted is) (k4.trans (sortI_perm is).symm)
          have hlen : ((sortI is).map V.int).length ≤ sizeLine := by
            rw [List.length_map, (sortI_perm is).length_eq]
            rw [List.length_map] at hz'
            exact hz'
          refine ⟨.ref _, upd H h1.objs.size (.lst ((sortI is).map V.int)), I1.laid (t' := s.toks) (h' := h') k2 (Nat.le_refl _) ⟨hlen, out, n, by rw [← e3]; exact vals_of_ints k3, he⟩, rfl, q _ _ (.list (I1.hok.fresh (Nat.le_refl _)) (RTs.of_ints _))⟩
      · obtain ⟨x, rfl, hx⟩ := rds1 rr
        obtain ⟨v0, rfl, rv0⟩ := vals1 r
        obtain ⟨a, vs, its, as, rfl, rfl, rt, rv, hz, hr, hsq⟩ := seq_readsS I rv0 hx e1
        have hlv : vs.length = its.length := rv.length
        split at e
        · rename_i hl1
          cases e
          have so : SeqObj s.heap a its := by
            rcases hsq with hs | hs
            · obtain ⟨o, h1, h2, n, h3⟩ := hs.1
              exact ⟨"list", o, n, .inl rfl, h1, h2, h3⟩
            · obtain ⟨o, h1, h2, n, h3⟩ := hs.1
              exact ⟨"tuple", o, n, .inr rfl, h1, h2, h3⟩
          refine sorted_short so hz (by rw [← hlv, rt.len]; exact hl1) fun h1 h' n k1 k2 he => ?_
          have I1 : Inv X pins σ H { s with heap := h1 } := I.kept (t' := s.toks) k1
          exact ⟨.ref _, upd H h1.objs.size (.lst vs), I1.laid (t' := s.toks) (h' := h') k2 (Nat.le_refl _) ⟨by rw [hlv]; exact hz, its, n, rv, he⟩, rfl, q _ _ (.list (I1.hok.fresh (Nat.le_refl _)) rt)⟩
        · split at e
          · rename_i ts' ei
            split at e
            · rename_i hk
              cases e
              simp only [Bool.and_eq_true, Bool.or_eq_true] at hk
              have hsl : s.heap.IsList a its.toArray := by
                rcases hsq with hs | hs
                · exact hs.1
                · exfalso
                  have hty := SqT.ty hs.2
                  obtain ⟨a', vs', e9, hs', _⟩ := hx.items ei
                  cases e9
                  obtain ⟨o, h1, h2, _⟩ := hs.1
                  obtain ⟨its2, _, p2, _⟩ := I.list hs'
                  obtain ⟨o2, h3, h4, _⟩ := p2.isList
                  rw [h1] at h3
                  cases h3
                  rw [h2] at h4
                  exact absurd h4 (by decide)
              have hA : PySem.W.AllAlike (ts.map toPy) := fun d hd d' hd' => by
                obtain ⟨t, ht, rfl⟩ := List.mem_map.mp hd
                obtain ⟨u, hu, rfl⟩ := List.mem_map.mp hd'
                exact (allAl_py hk.1.1 t ht u hu).1
              have hS : PySem.W.Sortable (ts.map toPy) := by
                rcases hk.2 with h | h
                · refine .inl fun d hd => ?_
                  obtain ⟨t, ht, rfl⟩ := List.mem_map.mp hd
                  have := List.all_eq_true.mp h t ht
                  unfold neT at this
                  split at this
                  · simp only [toPy, toPys]; exact ⟨_, _, rfl⟩
                  · cases this
                · refine .inr fun d hd => ?_
                  obtain ⟨t, ht, rfl⟩ := List.mem_map.mp hd
                  have := List.all_eq_true.mp h t ht
                  cases t <;> simp_all [flatT, toPy]
              have hE := each_rts rt rv
              have hR : PySem.W.EachIs (fun u t => ∃ as, Reads s.heap u (toPy t) as) its ts := hE.mono fun u t ⟨v, h1, h2⟩ => Dp.reads I _ v u h2.dp h1
              refine PySem.W.sorted_data (enc := toPy) hsl hE hR hA hS (by rw [← rt.len, hlv]; exact hz) (fun t ht => ?_) fun out hol hout => ?_
              · have := depth_py 30 t (List.all_eq_true.mp hk.1.2 t ht)
                omega
              · obtain ⟨ws, w1, w2⟩ := each_back hout
                obtain ⟨n, he⟩ := PyProof.Rows.sortedAll_at s.heap its out.toArray
                have kp : ∀ b o, s.heap.get? b = some o → (PyProof.Rows.sortedAll s.heap its out.toArray).get? b = some o := fun _ _ => PyProof.Rows.sortedAll_old
                have fr : H (s.heap.objs.size + 1) = none := I.hok.fresh (Nat.le_succ _)
                refine ⟨.ref _, upd H (s.heap.objs.size + 1) (.lst ws), I.laid (t' := s.toks) kp (Nat.le_succ _) ⟨by rw [w1.length, hol, ← rt.len, hlv]; exact hz, out, n, w1, he⟩, rfl, q _ _ (.list fr w2)⟩
            · cases e
          · cases e
    · cases e
  · cases e

/-! ### subscripts -/
theorem RTs.at {vs : List V} {ts : List T} {i : Int} {t : T} (r : RTs K H vs ts) (e : atI ts i = some t) : ∃ v, atI vs i = some v ∧ RT K H v t := by
  unfold atI at e ⊢
  rw [r.len]
  cases e2 : ixN ts.length i with
  | none => rw [e2] at e; cases e
  | some j => rw [e2] at e; exact r.get e
theorem OWs.at {vs : List V} {ts : List D} {G : List Addr} {i : Int} {t : D} (r : OWs K H vs ts G) (e : atI ts i = some t) : ∃ v G', atI vs i = some v ∧ OW K H v t G' ∧ ∀ a ∈ G', a ∈ G := by
  unfold atI at e ⊢
  rw [r.len]
  cases e2 : ixN ts.length i with
  | none => rw [e2] at e; cases e
  | some j => rw [e2] at e; exact r.get e
theorem s_item (h : itemD [d, e] = some z) (hx : Rd K H x d) (hy : Rd K H y e) (q : Meet K H z Q) : rIx K x y H Q := by
  unfold itemD at h
  split at h
  · rename_i ts i heq
    cases heq
    cases e1 : atI ts i with
    | none => rw [e1] at h; cases h
    | some t =>
      rw [e1] at h; cases h
      obtain ⟨a, vs, rfl, hs, rr⟩ := hx.tup
      rw [hy.int]
      obtain ⟨v, h1, h2⟩ := rr.at e1
      exact .inr (.inl ⟨a, vs, i, v, rfl, rfl, hs, h1, q _ _ (.p h2)⟩)
  · rename_i s i heq
    cases heq
    split at h
    · rename_i hl
      cases e1 : atI s.cps.toList i with
      | none => rw [e1] at h; cases h
      | some c =>
        rw [e1] at h; cases h
        rw [hx.str, hy.int]
        exact .inr (.inr ⟨s, i, c, rfl, rfl, by rw [← LIM_line]; exact hl, e1, q _ _ (.p (.str _))⟩)
    · cases h
  · rename_i ds i heq
    cases heq
    split at h
    · rename_i t e1
      cases h
      obtain ⟨a, vs, G, rfl, hs, rr⟩ := hx.lst
      rw [hy.int]
      obtain ⟨v, G', h1, h2, _⟩ := rr.at e1
      cases h2 with
      | p h2 => exact .inl ⟨a, vs, i, v, rfl, rfl, .of hs, h1, q _ _ (.p h2)⟩
    · cases h
  · rename_i ts i heq
    cases heq
    cases e1 : atI ts i with
    | none => rw [e1] at h; cases h
    | some t =>
      rw [e1] at h; cases h
      obtain ⟨a, vs, rfl, hs, rr⟩ := hx.roS
      rw [hy.int]
      obtain ⟨v, h1, h2⟩ := rr.at e1
      exact .inl ⟨a, vs, i, v, rfl, rfl, hs.l, h1, q _ _ (.p h2)⟩
  · cases h

/-! ### slices -/
def rSlF (K : PySem.W.Frag) : V → Option Int → Option Int → Hp → VK → Prop := fun x lo hi H Q => ∃ a xs, x = .ref a ∧ SqT K H a xs ∧
  (HT.sIx xs.length 0 lo = 0 ∧ HT.sIx xs.length xs.length hi = xs.length → Q (.ref a) H) ∧ (¬ (HT.sIx xs.length 0 lo = 0 ∧ HT.sIx xs.length xs.length hi = xs.length) → ∀ p (o : Obj), H p = none → o.dict = none → Q (.ref p) (upd H p (.frz o (.tup (cutT xs lo hi)))))
theorem sl_tupF {X : Cx} : SlR X (rSlF X.K) := by
  intro pins s σ H x v vl vu lo hi sl Q I rx hs pl pu ⟨a, xs, ex, hx, q1, q2⟩
  subst ex
  cases rx
  obtain ⟨its, r, ht, hz⟩ := I.tuple hx
  have hlen : its.toArray.size = xs.length := by rw [List.size_toArray]; exact r.length.symm
  refine ⟨"tuple", _, PyProof.Rows.slot_tuple_getitem.lookup, ht.typeIs, ?_⟩
  by_cases hw : HT.sIx xs.length 0 lo = 0 ∧ HT.sIx xs.length xs.length hi = xs.length
  · exact getItem_tuple_whole ht hs pl pu (by rw [hlen]; exact hw) ⟨.ref a, H, I, rfl, q1 hw⟩
  · refine HT.getItem_tuple_cut ht hs pl pu (by rw [hlen]; exact hw) ?_ (by rw [hlen]; exact hz)
    rw [hlen]
    have hg := Heap.get?_push_size s.heap (o := { cls := .type "tuple", data := .seq ((its.toArray.toList.drop (HT.sIx xs.length 0 lo)).take (HT.sIx xs.length xs.length hi - HT.sIx xs.length 0 lo)).toArray }) rfl
    refine ⟨.ref s.heap.objs.size, _, I.laid (t' := s.toks) (o := .frz { cls := .type "tuple", data := .seq ((its.toArray.toList.drop (HT.sIx xs.length 0 lo)).take (HT.sIx xs.length xs.length hi - HT.sIx xs.length 0 lo)).toArray } (.tup (cutT xs lo hi))) (fun b ob q => Heap.get?_push_of_some _ q) (Nat.le_refl _) ⟨hg, ?_, _, (r.drop _).take _, ⟨_, hg, rfl, _, rfl⟩⟩, rfl, q2 hw _ _ (I.hok.fresh (Nat.le_refl _)) rfl⟩
    exact Nat.le_trans (cutV_length xs lo hi) hz
theorem RTs.drop {vs : List V} {ts : List T} : ∀ n, RTs K H vs ts → RTs K H (vs.drop n) (ts.drop n)
  | 0, h => h
  | _ + 1, .nil => .nil
  | n + 1, .cons _ h => RTs.drop n h
theorem RTs.take {vs : List V} {ts : List T} : ∀ n, RTs K H vs ts → RTs K H (vs.take n) (ts.take n)
  | 0, _ => .nil
  | _ + 1, .nil => .nil
  | n + 1, .cons h hs => .cons h (RTs.take n hs)
theorem RTs.cut {vs : List V} {ts : List T} {lo hi : Option Int} (r : RTs K H vs ts) : RTs K H (cutT vs lo hi) (cutT ts lo hi) := by
  unfold cutT
  rw [r.len]
  exact (r.drop _).take _
theorem cutT_whole {α : Type} {xs : List α} {lo hi : Option Int} (h : HT.sIx xs.length 0 lo = 0 ∧ HT.sIx xs.length xs.length hi = xs.length) : cutT xs lo hi = xs := by
  unfold cutT
  rw [h.1, h.2]
  simp
def rSl (K : PySem.W.Frag) : V → Option Int → Option Int → Hp → VK → Prop := fun x lo hi H Q => rSlL K x lo hi H Q ∨ rSlF K x lo hi H Q
theorem slR {X : Cx} : SlR X (rSl X.K) := sl_list.or sl_tupF
theorem s_slice {lo hi : Option Int} (h : sliceV d lo hi = some z) (hx : Rd K H x d) (q : Meet K H z Q) : rSl K x lo hi H Q := by
  unfold sliceV at h
  split at h
  · rename_i ts
    cases h
    obtain ⟨a, vs, rfl, hs, rr⟩ := hx.tupD
    refine .inr ⟨a, vs, rfl, hs.t, fun w => ?_, fun w p o hp ho => q _ _ (.tup hp ho rr.cut)⟩
    rw [rr.len] at w
    refine q _ _ (.p ?_)
    rw [cutT_whole w]
    exact .tup hs rr
  · rename_i d' hn
    cases e1 : items d with
    | none => rw [e1] at h; cases h
    | some ts =>
      rw [e1] at h; cases h
      obtain ⟨a, vs, rfl, hs, rr⟩ := hx.items e1
      exact .inl ⟨a, vs, rfl, hs, fun p hp => q _ _ (.list hp rr.cut)⟩
end
end PF

set_option Elab.async false
set_option linter.all false
set_option maxRecDepth 100000
/-! PF8: the names' places, and what an expression's end is -/
namespace PF
open PySem PySem.Spec PyProof.Rows L2

/-- the places hold what is said; a lent thing stands only where β allows it -/
inductive EO (K : PySem.W.Frag) (H : Hp) : List Bool → L2.St → List S → List Addr → Prop
  | nil : EO K H [] [] [] []
  | no {b : Bool} {x : Option V} {β : List Bool} {σ : L2.St} {ρ : List S} {F : List Addr} : EO K H β σ ρ F → EO K H (b :: β) (x :: σ) (.no :: ρ) F
  | val {b : Bool} {v : V} {d : D} {β : List Bool} {σ : L2.St} {ρ : List S} {G F : List Addr} : OW K H v d G → EO K H β σ ρ F → EO K H (b :: β) (some v :: σ) (.val d :: ρ) (G ++ F)
  | bor {v : V} {d : D} {β : List Bool} {σ : L2.St} {ρ : List S} {G F : List Addr} : OW K H v d G → EO K H β σ ρ F → EO K H (true :: β) (some v :: σ) (.bor d :: ρ) F
def noB (β : List Bool) : Prop := ∀ b ∈ β, b = false
section
variable {K : PySem.W.Frag} {H H' : Hp} {β : List Bool} {σ : L2.St} {ρ : List S} {F : List Addr}
theorem EO.len (h : EO K H β σ ρ F) : ρ.length = σ.length := by
  induction h with
  | nil => rfl
  | no _ ih => exact congrArg (· + 1) ih
  | val _ _ ih => exact congrArg (· + 1) ih
  | bor _ _ ih => exact congrArg (· + 1) ih
theorem EO.lenB (h : EO K H β σ ρ F) : β.length = σ.length := by
  induction h with
  | nil => rfl
  | no _ ih => exact congrArg (· + 1) ih
  | val _ _ ih => exact congrArg (· + 1) ih
  | bor _ _ ih => exact congrArg (· + 1) ih
theorem EO.mt (h : EO K H β σ ρ F) : MutF H F := by
  induction h with
  | nil => exact .nil
  | no _ ih => exact ih
  | val o _ ih => exact o.mt.app ih
  | bor _ _ ih => exact ih
theorem EO.fr0 (f : Fr H H' []) (h : EO K H β σ ρ F) : EO K H' β σ ρ F := by
  induction h with
  | nil => exact .nil
  | no _ ih => exact .no ih
  | val o _ ih => exact .val (o.fr f .nil fun _ _ z => nomatch z) ih
  | bor o _ ih => exact .bor (o.fr f .nil fun _ _ z => nomatch z) ih
theorem EO.fr {F0 : List Addr} (f : Fr H H' F0) (m : MutF H F0) (h : EO K H β σ ρ F) (nb : noB β) (ap : ∀ a ∈ F, a ∉ F0) : EO K H' β σ ρ F := by
  induction h with
  | nil => exact .nil
  | no _ ih => exact .no (ih (fun b hb => nb b (List.mem_cons_of_mem _ hb)) ap)
  | val o _ ih => exact .val (o.fr f m fun a ha => ap a (List.mem_append_left _ ha)) (ih (fun b hb => nb b (List.mem_cons_of_mem _ hb)) fun a ha => ap a (List.mem_append_right _ ha))
  | bor o _ ih => exact absurd (nb true List.mem_cons_self) (by decide)
/-- a place's value, and the places without it -/
theorem EO.val_at : ∀ {β : List Bool} {σ : L2.St} {ρ : List S} {F : List Addr} {i : Nat} {d : D}, EO K H β σ ρ F → look ρ i = .val d →
    ∃ v G F', σ[i]? = some (some v) ∧ OW K H v d G ∧ EO K H β σ (put ρ i .no) F' ∧ ∀ a : Nat, List.count (α := Nat) a F = List.count a G + List.count a F'
  | _, _, _, _, _, _, .nil, e => by cases e
  | _, _, _, _, 0, d, .val o h, e => by
    have e' : S.val _ = S.val d := e
    cases e'
    exact ⟨_, _, _, rfl, o, .no h, fun a => ct_app a _ _⟩
  | _, _, _, _, 0, _, .no h, e => by cases e
  | _, _, _, _, 0, _, .bor o h, e => by cases e
  | _, _, _, _, i + 1, d, .no h, e => by
    obtain ⟨v, G, F', h1, h2, h3, h4⟩ := EO.val_at (i := i) h e
    exact ⟨v, G, F', by simpa using h1, h2, .no h3, h4⟩
  | _, _, _, _, i + 1, d, .val (G := G0) o h, e => by
    obtain ⟨v, G, F', h1, h2, h3, h4⟩ := EO.val_at (i := i) h e
    refine ⟨v, G, G0 ++ F', by simpa using h1, h2, .val o h3, fun a => ?_⟩
    rw [ct_app, ct_app, h4 a]
    omega
  | _, _, _, _, i + 1, d, .bor o h, e => by
    obtain ⟨v, G, F', h1, h2, h3, h4⟩ := EO.val_at (i := i) h e
    exact ⟨v, G, F', by simpa using h1, h2, .bor o h3, h4⟩
theorem EO.bor_at : ∀ {β : List Bool} {σ : L2.St} {ρ : List S} {F : List Addr} {i : Nat} {d : D}, EO K H β σ ρ F → look ρ i = .bor d →
    ∃ v G, σ[i]? = some (some v) ∧ OW K H v d G ∧ β[i]? = some true
  | _, _, _, _, _, _, .nil, e => by cases e
  | _, _, _, _, 0, d, .val o h, e => by cases e
  | _, _, _, _, 0, _, .no h, e => by cases e
  | _, _, _, _, 0, d, .bor o h, e => by
    have e' : S.bor _ = S.bor d := e
    cases e'
    exact ⟨_, _, rfl, o, rfl⟩
  | _, _, _, _, i + 1, d, .no h, e => by
    obtain ⟨v, G, h1, h2, h3⟩ := EO.bor_at (i := i) h e
    exact ⟨v, G, by simpa using h1, h2, by simpa using h3⟩
  | _, _, _, _, i + 1, d, .val o h, e => by
    obtain ⟨v, G, h1, h2, h3⟩ := EO.bor_at (i := i) h e
    exact ⟨v, G, by simpa using h1, h2, by simpa using h3⟩
  | _, _, _, _, i + 1, d, .bor o h, e => by
    obtain ⟨v, G, h1, h2, h3⟩ := EO.bor_at (i := i) h e
    exact ⟨v, G, by simpa using h1, h2, by simpa using h3⟩
/-- a place emptied; its value may be any -/
theorem EO.no_at : ∀ {β : List Bool} {σ σ' : L2.St} {ρ : List S} {F : List Addr} (i : Nat), EO K H β σ ρ F → σ'.length = σ.length → (∀ j, j ≠ i → σ'[j]? = σ[j]?) → ∃ F', Sb F' F ∧ EO K H β σ' (put ρ i .no) F'
  | _, _, [], _, _, _, .nil, _, _ => ⟨[], Sb.refl _, .nil⟩
  | _, _, _ :: _, _, _, _, .nil, e, _ => by cases e
  | _, _, [], _, _, _, .no h, e, _ => by cases e
  | _, _, [], _, _, _, .val _ h, e, _ => by cases e
  | _, _, [], _, _, _, .bor _ h, e, _ => by cases e
  | _, _, y :: σ', _, _, 0, .no h, e, k => by
    have es : σ' = _ := List.ext_getElem? fun j => by simpa using k (j + 1) (by omega)
    subst es
    exact ⟨_, Sb.refl _, .no h⟩
  | _, _, y :: σ', _, _, 0, .val o h, e, k => by
    have es : σ' = _ := List.ext_getElem? fun j => by simpa using k (j + 1) (by omega)
    subst es
    exact ⟨_, fun a => by rw [ct_app]; omega, .no h⟩
  | _, _, y :: σ', _, _, 0, .bor o h, e, k => by
    have es : σ' = _ := List.ext_getElem? fun j => by simpa using k (j + 1) (by omega)
    subst es
    exact ⟨_, Sb.refl _, .no h⟩
  | _, _, y :: σ', _, _, i + 1, .no h, e, k => by
    obtain ⟨F', h1, h2⟩ := EO.no_at (σ' := σ') i h (by simpa using e) fun j hj => by simpa using k (j + 1) (by omega)
    exact ⟨F', h1, .no h2⟩
  | _, _, y :: σ', _, _, i + 1, .val (v := v0) o h, e, k => by
    obtain ⟨F', h1, h2⟩ := EO.no_at (σ' := σ') i h (by simpa using e) fun j hj => by simpa using k (j + 1) (by omega)
    have e0 : y = some v0 := by simpa using k 0 (by omega)
    subst e0
    exact ⟨_, fun a => by rw [ct_app, ct_app]; have := h1 a; omega, .val o h2⟩
  | _, _, y :: σ', _, _, i + 1, .bor (v := v0) o h, e, k => by
    obtain ⟨F', h1, h2⟩ := EO.no_at (σ' := σ') i h (by simpa using e) fun j hj => by simpa using k (j + 1) (by omega)
    have e0 : y = some v0 := by simpa using k 0 (by omega)
    subst e0
    exact ⟨_, h1, .bor o h2⟩
theorem put_put (i : Nat) (a b : S) : ∀ ρ : List S, put (put ρ i a) i b = put ρ i b := by
  induction i with
  | zero => intro ρ; cases ρ <;> rfl
  | succ i ih =>
    intro ρ
    cases ρ with
    | nil => rfl
    | cons s r => exact congrArg (s :: ·) (ih r)
/-- an empty place filled -/
theorem EO.fill : ∀ {β : List Bool} {σ : L2.St} {ρ : List S} {F G : List Addr} {i : Nat} {v : V} {d : D}, EO K H β σ ρ F → look ρ i = .no → σ[i]? = some (some v) → OW K H v d G →
    ∃ F', (∀ a : Nat, List.count (α := Nat) a F' = List.count a F + List.count a G) ∧ EO K H β σ (put ρ i (.val d)) F'
  | _, _, _, _, _, _, _, _, .nil, _, e, _ => by simp at e
  | _, _, _, _, _, 0, _, _, .val _ _, e, _, _ => by cases e
  | _, _, _, _, _, 0, _, _, .bor _ _, e, _, _ => by cases e
  | _, _, _, _, G, 0, v, d, .no (x := x) h, _, e, o => by
    have e' : x = some v := by simpa using e
    subst e'
    exact ⟨_, fun a => by rw [ct_app]; omega, .val o h⟩
  | _, _, _, _, _, i + 1, _, _, .no h, e1, e2, o => by
    obtain ⟨F', h1, h2⟩ := EO.fill (i := i) h e1 (by simpa using e2) o
    exact ⟨F', h1, .no h2⟩
  | _, _, _, _, _, i + 1, _, _, .val o' h, e1, e2, o => by
    obtain ⟨F', h1, h2⟩ := EO.fill (i := i) h e1 (by simpa using e2) o
    exact ⟨_, fun a => by rw [ct_app, ct_app, h1 a]; omega, .val o' h2⟩
  | _, _, _, _, _, i + 1, _, _, .bor o' h, e1, e2, o => by
    obtain ⟨F', h1, h2⟩ := EO.fill (i := i) h e1 (by simpa using e2) o
    exact ⟨F', h1, .bor o' h2⟩
theorem EO.fillB : ∀ {β : List Bool} {σ : L2.St} {ρ : List S} {F G : List Addr} {i : Nat} {v : V} {d : D}, EO K H β σ ρ F → look ρ i = .no → σ[i]? = some (some v) → β[i]? = some true → OW K H v d G →
    EO K H β σ (put ρ i (.bor d)) F
  | _, _, _, _, _, _, _, _, .nil, _, e, _, _ => by simp at e
  | _, _, _, _, _, 0, _, _, .val _ _, e, _, _, _ => by cases e
  | _, _, _, _, _, 0, _, _, .bor _ _, e, _, _, _ => by cases e
  | _, _, _, _, G, 0, v, d, .no (b := b) (x := x) h, _, e, eb, o => by
    have e' : x = some v := by simpa using e
    have e2 : b = true := by simpa using eb
    subst e' e2
    exact .bor o h
  | _, _, _, _, _, i + 1, _, _, .no h, e1, e2, eb, o => .no (EO.fillB (i := i) h e1 (by simpa using e2) (by simpa using eb) o)
  | _, _, _, _, _, i + 1, _, _, .val o' h, e1, e2, eb, o => .val o' (EO.fillB (i := i) h e1 (by simpa using e2) (by simpa using eb) o)
  | _, _, _, _, _, i + 1, _, _, .bor o' h, e1, e2, eb, o => .bor o' (EO.fillB (i := i) h e1 (by simpa using e2) (by simpa using eb) o)
theorem look_put : ∀ (ρ : List S) (i : Nat) (s : S), i < ρ.length → look (put ρ i s) i = s
  | [], _, _, h => by simp at h
  | _ :: _, 0, _, _ => rfl
  | _ :: r, i + 1, s, h => look_put r i s (by simpa using h)
theorem look_put_ne : ∀ (ρ : List S) {i j : Nat} (s : S), j ≠ i → look (put ρ i s) j = look ρ j
  | [], _, _, _, _ => rfl
  | _ :: _, 0, 0, _, h => absurd rfl h
  | _ :: _, 0, _ + 1, _, _ => rfl
  | _ :: _, _ + 1, 0, _, _ => rfl
  | _ :: r, i + 1, j + 1, s, h => look_put_ne r s (by omega)
/-- a name stored -/
theorem EO.store {G : List Addr} {i : Nat} {v : V} {d : D} (h : EO K H β σ ρ F) (hi : i < σ.length) (o : OW K H v d G) : ∃ F', Sb F' (F ++ G) ∧ EO K H β (σ.set i (some v)) (put ρ i (.val d)) F' := by
  obtain ⟨F1, h1, h2⟩ := EO.no_at (σ' := σ.set i (some v)) i h (by simp) fun j hj => by rw [List.getElem?_set_ne (Ne.symm hj)]
  obtain ⟨F2, h3, h4⟩ := EO.fill (i := i) (v := v) h2 (look_put _ _ _ (by rw [h.len]; exact hi)) (by rw [List.getElem?_set_self hi]) o
  rw [put_put] at h4
  exact ⟨F2, fun a => by rw [h3 a, ct_app]; have := h1 a; omega, h4⟩
theorem EO.storeB {G : List Addr} {i : Nat} {v : V} {d : D} (h : EO K H β σ ρ F) (hi : i < σ.length) (hb : β[i]? = some true) (o : OW K H v d G) : ∃ F', Sb F' F ∧ EO K H β (σ.set i (some v)) (put ρ i (.bor d)) F' := by
  obtain ⟨F1, h1, h2⟩ := EO.no_at (σ' := σ.set i (some v)) i h (by simp) fun j hj => by rw [List.getElem?_set_ne (Ne.symm hj)]
  have h4 := EO.fillB (i := i) (v := v) h2 (look_put _ _ _ (by rw [h.len]; exact hi)) (by rw [List.getElem?_set_self hi]) hb o
  rw [put_put] at h4
  exact ⟨F1, h1, h4⟩
/-- places emptied -/
theorem EO.kill : ∀ (is : List Nat) {σ' : L2.St}, EO K H β σ ρ F → σ'.length = σ.length → (∀ j, j ∉ is → σ'[j]? = σ[j]?) → ∃ F', Sb F' F ∧ EO K H β σ' (PF.kill ρ is) F'
  | [], σ', h, hl, k => by
    have e : σ' = σ := List.ext_getElem? fun j => k j (by simp)
    subst e
    exact ⟨F, Sb.refl _, h⟩
  | i :: is, σ', h, hl, k => by
    have hk : ∀ j, j ∉ is → (if j = i then σ[i]? else σ'[j]?) = σ[j]? := fun j hj => by
      split
      · rename_i e; rw [e]
      · rename_i e; exact k j (by simp [hj, e])
    by_cases hi : i < σ.length
    · obtain ⟨F1, h1, h2⟩ := EO.kill is (σ' := σ'.set i σ[i]) h (by simpa using hl) fun j hj => by
        by_cases e : j = i
        · subst e
          rw [List.getElem?_set_self (by rw [hl]; exact hi), List.getElem?_eq_getElem hi]
        · rw [List.getElem?_set_ne (Ne.symm e)]
          exact k j (by simp [hj, e])
      obtain ⟨F2, h3, h4⟩ := EO.no_at (σ' := σ') i h2 (by simp) fun j hj => by rw [List.getElem?_set_ne (Ne.symm hj)]
      exact ⟨F2, h3.trans h1, h4⟩
    · obtain ⟨F1, h1, h2⟩ := EO.kill is (σ' := σ') h hl fun j hj => by
        by_cases e : j = i
        · subst e
          rw [List.getElem?_eq_none (by omega), List.getElem?_eq_none (by omega)]
        · exact k j (by simp [hj, e])
      obtain ⟨F2, h3, h4⟩ := EO.no_at (σ' := σ') i h2 rfl fun j hj => rfl
      exact ⟨F2, h3.trans h1, h4⟩
/-- fewer leaves to lend -/
theorem EO.re {β' : List Bool} (h : EO K H β σ ρ F) (hl : β'.length = β.length) (hb : ∀ i d, look ρ i = .bor d → β'[i]? = some true) : EO K H β' σ ρ F := by
  induction h generalizing β' with
  | nil =>
    cases β' with
    | nil => exact .nil
    | cons _ _ => simp at hl
  | no _ ih =>
    cases β' with
    | nil => simp at hl
    | cons b β' => exact .no (ih (by simpa using hl) fun i d e => by simpa using hb (i + 1) d e)
  | val o _ ih =>
    cases β' with
    | nil => simp at hl
    | cons b β' => exact .val o (ih (by simpa using hl) fun i d e => by simpa using hb (i + 1) d e)
  | bor o _ ih =>
    cases β' with
    | nil => simp at hl
    | cons b β' =>
      have e : b = true := by simpa using hb 0 _ rfl
      subst e
      exact .bor o (ih (by simpa using hl) fun i d e => by simpa using hb (i + 1) d e)
end
end PF

set_option Elab.async false
set_option linter.all false
set_option maxRecDepth 100000
/-! PF9: an expression's reading, from the interpreter's answer -/
namespace PF
open PySem PySem.Spec PyProof.Rows L2

/-- places that have been emptied at most -/
structure Le (ρ ρ' : List S) : Prop where
  len : ρ'.length = ρ.length
  at_ : ∀ i, look ρ' i = look ρ i ∨ look ρ' i = .no
theorem Le.refl (ρ : List S) : Le ρ ρ := ⟨rfl, fun _ => .inl rfl⟩
theorem Le.trans {ρ ρ1 ρ2 : List S} (h : Le ρ ρ1) (h2 : Le ρ1 ρ2) : Le ρ ρ2 := ⟨h2.len.trans h.len, fun i => by
  rcases h2.at_ i with e | e
  · rw [e]; exact h.at_ i
  · exact .inr e⟩
theorem put_len : ∀ (ρ : List S) (i : Nat) (s : S), (put ρ i s).length = ρ.length
  | [], _, _ => rfl
  | _ :: _, 0, _ => rfl
  | _ :: r, i + 1, s => congrArg (· + 1) (put_len r i s)
theorem kill_len (ρ : List S) : ∀ is : List Nat, (kill ρ is).length = ρ.length
  | [] => rfl
  | i :: is => by show (put (kill ρ is) i .no).length = _; rw [put_len, kill_len ρ is]
theorem look_over : ∀ (ρ : List S) (i : Nat), ρ.length ≤ i → look ρ i = .no
  | [], _, _ => rfl
  | _ :: _, 0, h => by simp at h
  | _ :: r, i + 1, h => look_over r i (by simpa using h)
theorem Le.no (ρ : List S) (i : Nat) : Le ρ (put ρ i .no) := ⟨put_len _ _ _, fun j => by
  by_cases e : j = i
  · subst e
    refine .inr ?_
    by_cases h : j < ρ.length
    · exact look_put _ _ _ h
    · exact look_over _ _ (by rw [put_len]; omega)
  · exact .inl (look_put_ne _ _ e)⟩
theorem Le.kill (ρ : List S) : ∀ is : List Nat, Le ρ (kill ρ is)
  | [] => .refl _
  | i :: is => (Le.kill ρ is).trans (Le.no _ i)
theorem EO.le {K : PySem.W.Frag} {H : Hp} : ∀ {β : List Bool} {σ : L2.St} {ρ ρ' : List S} {F : List Addr}, EO K H β σ ρ F → Le ρ ρ' → ∃ F', Sb F' F ∧ EO K H β σ ρ' F'
  | _, _, _, [], _, .nil, _ => ⟨[], Sb.refl _, .nil⟩
  | _, _, _, _ :: _, _, .nil, l => by have := l.len; simp at this
  | _, _, _, [], _, .no _, l => by have := l.len; simp at this
  | _, _, _, [], _, .val _ _, l => by have := l.len; simp at this
  | _, _, _, [], _, .bor _ _, l => by have := l.len; simp at this
  | _, _, _, s :: ρ', _, .no h, l => by
    obtain ⟨F', h1, h2⟩ := h.le (ρ' := ρ') ⟨by simpa using l.len, fun i => by simpa [look] using l.at_ (i + 1)⟩
    have e : s = .no := by rcases l.at_ 0 with e | e <;> exact e
    subst e
    exact ⟨F', h1, .no h2⟩
  | _, _, _, s :: ρ', _, .val o h, l => by
    obtain ⟨F', h1, h2⟩ := h.le (ρ' := ρ') ⟨by simpa using l.len, fun i => by simpa [look] using l.at_ (i + 1)⟩
    rcases l.at_ 0 with e | e
    · have e : s = _ := e
      subst e
      exact ⟨_, fun a => by rw [ct_app, ct_app]; have := h1 a; omega, .val o h2⟩
    · have e : s = .no := e
      subst e
      exact ⟨F', fun a => by rw [ct_app]; have := h1 a; omega, .no h2⟩
  | _, _, _, s :: ρ', _, .bor o h, l => by
    obtain ⟨F', h1, h2⟩ := h.le (ρ' := ρ') ⟨by simpa using l.len, fun i => by simpa [look] using l.at_ (i + 1)⟩
    rcases l.at_ 0 with e | e
    · have e : s = _ := e
      subst e
      exact ⟨F', h1, .bor o h2⟩
    · have e : s = .no := e
      subst e
      exact ⟨F', h1, .no h2⟩
inductive RR (K : PySem.W.Frag) (H : Hp) (σ : L2.St) : R → V → List Addr → Prop
  | rv {d : D} {v : V} {G : List Addr} : OW K H v d G → RR K H σ (.rv d) v G
  | nm {i : Nat} {v : V} : σ[i]? = some (some v) → RR K H σ (.nm i) v []
  | bv {d : D} {v : V} {G : List Addr} : OW K H v d G → RR K H σ (.bv d) v []
inductive RRs (K : PySem.W.Frag) (H : Hp) (σ : L2.St) : List R → List V → List Addr → Prop
  | nil : RRs K H σ [] [] []
  | cons {r : R} {v : V} {G : List Addr} {rs : List R} {vs : List V} {Gs : List Addr} : RR K H σ r v G → RRs K H σ rs vs Gs → RRs K H σ (r :: rs) (v :: vs) (G ++ Gs)
/-- the footprint that may change -/
def FF (q : Bool) (F : List Addr) : List Addr := if q = true then [] else F
structure Step (q : Bool) (H : Hp) (F : List Addr) (H' : Hp) (A : List Addr) : Prop where
  nw : ∀ a ∈ A, a ∈ F ∨ H a = none
  fr : Fr H H' (FF q F)
section
variable {K : PySem.W.Frag} {H H1 H2 : Hp} {β : List Bool} {σ : L2.St} {ρ ρ' ρ1 ρ2 : List S} {F F1 F2 A B G : List Addr} {q q' : Bool} {r : R} {v : V}
theorem FF.sub {a : Addr} (h : a ∈ FF q F) : a ∈ F := by
  unfold FF at h
  split at h
  · cases h
  · exact h
theorem FF.ff : FF false F = F := rfl
theorem MutF.ff (h : MutF H F) : MutF H (FF q F) := h.sub fun a => FF.sub
theorem Step.refl : Step q H F H F := ⟨fun a h => .inl h, Fr.refl _ _⟩
theorem Step.sub (h : Step q H F H1 A) (s : ∀ a ∈ B, a ∈ A) : Step q H F H1 B := ⟨fun a ha => h.nw a (s a ha), h.fr⟩
theorem Step.newer (h : Step q H F H1 A) {a : Addr} (hn : H1 a = none) : a ∈ F ∨ H a = none := by
  by_cases hf : a ∈ F
  · exact .inl hf
  · refine .inr ?_
    cases e : H a with
    | none => rfl
    | some o =>
      have := h.fr a o e fun z => hf (FF.sub z)
      rw [hn] at this; cases this
theorem Step.trans (h : Step q H F H1 A) (h1 : ∀ a ∈ F1, a ∈ A) (h2 : Step q' H1 F1 H2 B) (i : q = true → q' = true) : Step q H F H2 (A ++ B) := by
  refine ⟨fun a ha => ?_, fun a o e n => ?_⟩
  · rcases List.mem_append.mp ha with ha | ha
    · exact h.nw a ha
    · rcases h2.nw a ha with ha | ha
      · exact h.nw a (h1 a ha)
      · exact h.newer ha
  · refine h2.fr a o (h.fr a o e n) fun z => ?_
    cases q' with
    | true => cases z
    | false =>
      cases q with
      | true => exact absurd (i rfl) (by decide)
      | false =>
        rcases h.nw a (h1 a z) with w | w
        · exact n w
        · rw [w] at e; cases e
theorem RR.mt (h : RR K H σ r v G) : MutF H G := by
  cases h with
  | rv o => exact o.mt
  | nm _ => exact .nil
  | bv _ => exact .nil
theorem RRs.mt {rs : List R} {vs : List V} (h : RRs K H σ rs vs G) : MutF H G := by
  induction h with
  | nil => exact .nil
  | cons h _ ih => exact h.mt.app ih
theorem RR.fr {F0 : List Addr} (f : Fr H H1 F0) (m : MutF H F0) (h : RR K H σ r v G) (ap : ∀ a ∈ G, a ∉ F0) (l : lent r = true → F0 = []) : RR K H1 σ r v G := by
  cases h with
  | rv o => exact .rv (o.fr f m ap)
  | nm e => exact .nm e
  | bv o =>
    have e := l rfl
    subst e
    exact .bv (o.fr f m fun _ _ z => nomatch z)
theorem RR.rd {F : List Addr} {d : D} (h : RR K H σ r v G) (eo : EO K H β σ ρ F) (e : valR ρ r = some d) : Rd K H v d := by
  cases h with
  | rv o => cases e; exact ⟨_, o⟩
  | bv o => cases e; exact ⟨_, o⟩
  | nm hi =>
    rename_i i
    simp only [valR] at e
    split at e
    · rename_i d' e1
      cases e
      obtain ⟨v', G', F', h1, h2, _⟩ := eo.val_at e1
      rw [hi] at h1
      cases h1
      exact ⟨_, h2⟩
    · cases e
theorem RRs.rds {F : List Addr} {rs : List R} {vs : List V} (h : RRs K H σ rs vs G) (eo : EO K H β σ ρ F) : ∀ {ds : List D}, vals ρ rs = some ds → Rds K H vs ds := by
  induction h with
  | nil => intro ds e; cases e; exact .nil
  | cons h _ ih =>
    intro ds e
    simp only [vals] at e
    split at e
    · rename_i d ds' e1 e2
      cases e
      exact .cons (h.rd eo e1) (ih e2)
    · cases e

/-- an expression's end -/
structure Pst (K : PySem.W.Frag) (β : List Bool) (q : Bool) (σ : L2.St) (ρ : List S) (H : Hp) (F : List Addr) (r : R) (ρ' : List S) (v : V) (H' : Hp) (F' G : List Addr) : Prop where
  eo : EO K H' β σ ρ' F'
  rr : RR K H' σ r v G
  nd : ND (F' ++ G)
  st : Step q H F H' (F' ++ G)
  nq : q = true → ∀ a ∈ G, H a = none
  le : q = true → Le ρ ρ'
structure PstL (K : PySem.W.Frag) (β : List Bool) (q : Bool) (σ : L2.St) (ρ : List S) (H : Hp) (F : List Addr) (rs : List R) (ρ' : List S) (vs : List V) (H' : Hp) (F' G : List Addr) : Prop where
  eo : EO K H' β σ ρ' F'
  rr : RRs K H' σ rs vs G
  nd : ND (F' ++ G)
  st : Step q H F H' (F' ++ G)
  nq : q = true → ∀ a ∈ G, H a = none
  le : q = true → Le ρ ρ'
/-- how one begins -/
structure Pre (K : PySem.W.Frag) (β : List Bool) (q : Bool) (σ : L2.St) (ρ : List S) (H : Hp) (F : List Addr) : Prop where
  nb : q = false → noB β
  eo : EO K H β σ ρ F
  nd : ND F
def xE (Γ : List CT) (K : PySem.W.Frag) (x : Ex) : TE := fun σ H Q => ∃ β q ρ F r ρ', Pre K β q σ ρ H F ∧ ev Γ q x ρ = some (r, ρ') ∧ ∀ v H' F' G, Pst K β q σ ρ H F r ρ' v H' F' G → Q v H'
def xL (Γ : List CT) (K : PySem.W.Frag) (xs : List Ex) : TA := fun σ H Q => ∃ β q ρ F rs ρ', Pre K β q σ ρ H F ∧ evL Γ q xs ρ = some (rs, ρ') ∧ ∀ vs H' F' G, PstL K β q σ ρ H F rs ρ' vs H' F' G → Q vs H'
structure PstT (K : PySem.W.Frag) (β : List Bool) (q : Bool) (σ : L2.St) (ρ : List S) (H : Hp) (F : List Addr) (ρ' : List S) (H' : Hp) (F' : List Addr) : Prop where
  eo : EO K H' β σ ρ' F'
  nd : ND F'
  st : Step q H F H' F'
  le : q = true → Le ρ ρ'
def xT (Γ : List CT) (K : PySem.W.Frag) (x : Ex) : TT := fun σ H Q => ∃ β q ρ F r ρ' k, Pre K β q σ ρ H F ∧ ev Γ q x ρ = some (r, ρ') ∧ truR ρ' r = some k ∧ ∀ H' F', PstT K β q σ ρ H F ρ' H' F' → Q k H'
theorem ND.left (h : ND (A ++ B)) : ND A := fun a => by have := h a; rw [ct_app] at this; omega
theorem ND.right (h : ND (A ++ B)) : ND B := fun a => by have := h a; rw [ct_app] at this; omega
theorem or_false {a b : Bool} (h : (a || b) = false) : a = false := by cases a <;> simp_all
theorem Pst.pre (h : Pst K β q σ ρ H F r ρ' v H1 F1 G) (nb : q = false → noB β) : Pre K β (q || lent r) σ ρ' H1 F1 := ⟨fun e => nb (or_false e), h.eo, h.nd.left⟩
theorem Pst.preS (h : Pst K β q σ ρ H F r ρ' v H1 F1 G) (nb : q = false → noB β) : Pre K β q σ ρ' H1 F1 := ⟨nb, h.eo, h.nd.left⟩
/-- what is apart stays apart -/
theorem ND.keep {F1 G1 A2 : List Addr} (h1 : ND (F1 ++ G1)) (m : MutF H1 G1) (h2 : ND A2) (s : ∀ a ∈ A2, a ∈ F1 ∨ H1 a = none) : ND (A2 ++ G1) := fun a => by
  have c1 := h1 a
  have c2 := h2 a
  rw [ct_app] at c1 ⊢
  by_cases hg : a ∈ G1
  · have hn : a ∉ A2 := fun z => by
      rcases s a z with w | w
      · exact h1.apart w hg
      · exact m.ne w hg
    have : List.count (α := Nat) a A2 = 0 := List.count_eq_zero.mpr hn
    omega
  · have : List.count (α := Nat) a G1 = 0 := List.count_eq_zero.mpr hg
    omega
theorem ND.perm (h : ND A) (s : ∀ a : Nat, List.count (α := Nat) a B ≤ List.count a A) : ND B := fun a => Nat.le_trans (s a) (h a)
/-- a first result behind the next step -/
theorem RR.behind {F1 G1 A2 : List Addr} (h : RR K H1 σ r v G1) (nd : ND (F1 ++ G1)) (m : MutF H1 F1) (st : Step (q || lent r) H1 F1 H2 A2) : RR K H2 σ r v G1 :=
  h.fr st.fr m.ff (fun a ha z => nd.apart (FF.sub z) ha) fun l => by rw [l, Bool.or_true]; rfl
theorem Fr.oldNone (f : Fr H H1 []) {a : Addr} (h : H1 a = none) : H a = none := by
  cases e : H a with
  | none => rfl
  | some o =>
    have := f a o e fun z => nomatch z
    rw [h] at this; cases this
theorem Step.q0 (h : Step true H F H1 A) : Fr H H1 [] := h.fr
theorem PstL.cons {rs : List R} {vs : List V} {F1 G1 F2 G2 : List Addr} (h : Pst K β q σ ρ H F r ρ1 v H1 F1 G1) (h2 : PstL K β (q || lent r) σ ρ1 H1 F1 rs ρ2 vs H2 F2 G2) : PstL K β q σ ρ H F (r :: rs) ρ2 (v :: vs) H2 F2 (G1 ++ G2) := by
  refine ⟨h2.eo, .cons (h.rr.behind h.nd h.eo.mt h2.st) h2.rr, ?_, ?_, fun e a ha => ?_, fun e => (h.le e).trans (h2.le (by rw [e]; rfl))⟩
  · refine (h.nd.keep h.rr.mt h2.nd h2.st.nw).perm fun a => ?_
    simp only [ct_app]
    omega
  · refine (h.st.trans (fun a ha => List.mem_append_left _ ha) h2.st fun e => by rw [e]; rfl).sub fun a ha => ?_
    simp only [List.mem_append] at ha ⊢
    rcases ha with ha | ha | ha
    · exact .inr (.inl ha)
    · exact .inl (.inr ha)
    · exact .inr (.inr ha)
  · rcases List.mem_append.mp ha with ha | ha
    · exact h.nq e a ha
    · subst e
      exact h.st.q0.oldNone (h2.nq rfl a ha)
theorem xL_nil {Γ : List CT} {Q : List V → Hp → Prop} (h : xL Γ K [] σ H Q) : Q [] H := by
  obtain ⟨β, q, ρ, F, rs, ρ', p, e, k⟩ := h
  cases e
  exact k [] H F [] ⟨p.eo, .nil, by rw [List.append_nil]; exact p.nd, by rw [List.append_nil]; exact .refl, (fun _ _ z => nomatch z), fun _ => .refl _⟩
theorem xL_cons {Γ : List CT} {x : Ex} {xs : List Ex} {Q : List V → Hp → Prop} (h : xL Γ K (x :: xs) σ H Q) : xE Γ K x σ H fun v H1 => xL Γ K xs σ H1 fun vs H2 => Q (v :: vs) H2 := by
  obtain ⟨β, q, ρ, F, rs, ρ', p, e, k⟩ := h
  simp only [evL] at e
  split at e
  · rename_i r ρ1 e1
    split at e
    · rename_i rs' ρ2 e2
      cases e
      refine ⟨β, q, ρ, F, r, ρ1, p, e1, fun v H1 F1 G1 h1 => ⟨β, q || lent r, ρ1, F1, rs', ρ', h1.pre p.nb, e2, fun vs H2 F2 G2 h2 => k _ _ _ _ (.cons h1 h2)⟩⟩
    · cases e
  · cases e
theorem xE.mono {Γ : List CT} {x : Ex} {Q Q' : VK} (h : xE Γ K x σ H Q) (i : ∀ v H1, Q v H1 → Q' v H1) : xE Γ K x σ H Q' := by
  obtain ⟨β, q, ρ, F, r, ρ', p, e, k⟩ := h
  exact ⟨β, q, ρ, F, r, ρ', p, e, fun v H' F' G h => i _ _ (k v H' F' G h)⟩
theorem xL_two {Γ : List CT} {x y : Ex} {Q : List V → Hp → Prop} (h : xL Γ K [x, y] σ H Q) : xE Γ K x σ H fun v H1 => xE Γ K y σ H1 fun u H2 => Q [v, u] H2 :=
  (xL_cons h).mono fun _ _ h => (xL_cons h).mono fun _ _ h => xL_nil h
theorem xL_one {Γ : List CT} {x : Ex} {Q : List V → Hp → Prop} (h : xL Γ K [x] σ H Q) : xE Γ K x σ H fun v H1 => Q [v] H1 :=
  (xL_cons h).mono fun _ _ h => xL_nil h
/-- a new value behind arguments -/
theorem PstL.new {rs : List R} {vs : List V} {z : D} {H3 : Hp} (h : PstL K β q σ ρ H F rs ρ' vs H2 F2 G) (n : NewV K H2 v z H3) : ∃ G', Pst K β q σ ρ H F (.rv z) ρ' v H3 F2 G' := by
  obtain ⟨G', o, nd, nw, f⟩ := n
  refine ⟨G', h.eo.fr0 f, .rv o, fun a => ?_, ⟨fun a ha => ?_, fun a ob e n => f a ob (h.st.fr a ob e n) (fun z => nomatch z)⟩, fun e a ha => ?_, h.le⟩
  · have c1 := h.nd.left a
    have c2 := nd a
    rw [ct_app]
    by_cases hg : a ∈ G'
    · have : List.count (α := Nat) a F2 = 0 := List.count_eq_zero.mpr (h.eo.mt.ne (nw a hg))
      omega
    · have : List.count (α := Nat) a G' = 0 := List.count_eq_zero.mpr hg
      omega
  · rcases List.mem_append.mp ha with ha | ha
    · exact h.st.nw a (List.mem_append_left _ ha)
    · exact h.st.newer (nw a ha)
  · subst e
    exact h.st.q0.oldNone (nw a ha)
theorem x_op {Γ : List CT} {o : Op} {xs : List Ex} {Q : VK} (h : xE Γ K (.op o xs) σ H Q) : xL Γ K xs σ H fun vs H1 => ∃ ds z, Rds K H1 vs ds ∧ opD o ds = some z ∧ Meet K H1 z Q := by
  obtain ⟨β, q, ρ, F, r, ρ', p, e, k⟩ := h
  simp only [ev] at e
  split at e
  · rename_i rs ρ1 e1
    split at e
    · rename_i ds e2
      split at e
      · rename_i d e3
        cases e
        refine ⟨β, q, ρ, F, rs, ρ', p, e1, fun vs H1 F1 G1 h1 => ⟨ds, d, h1.rr.rds h1.eo e2, e3, fun v H2 n => ?_⟩⟩
        obtain ⟨G', h2⟩ := h1.new n
        exact k v H2 F1 G' h2
      · cases e
    · cases e
  · cases e
theorem x_nm {Γ : List CT} {i : Nat} {Q : VK} (h : xE Γ K (.nm i) σ H Q) : tVar i σ H Q := by
  obtain ⟨β, q, ρ, F, r, ρ', p, e, k⟩ := h
  have fin : ∀ {r : R} {v : V}, some (r, ρ) = some (r, ρ') → RR K H σ r v [] → (∀ v H' F' G, Pst K β q σ ρ H F r ρ' v H' F' G → Q v H') → Q v H := fun {r v} e rr k => by
    cases e
    exact k v H F [] ⟨p.eo, rr, by rw [List.append_nil]; exact p.nd, by rw [List.append_nil]; exact .refl, (fun _ _ z => nomatch z), fun _ => .refl _⟩
  simp only [ev] at e
  split at e
  · rename_i t e1
    obtain ⟨v, G', F', h1, h2, _⟩ := p.eo.val_at e1
    cases e
    cases h2 with
    | p h2 => exact ⟨v, h1, fin rfl (.rv (.p h2)) k⟩
  · rename_i d _ e1
    obtain ⟨v, G', F', h1, h2, _⟩ := p.eo.val_at e1
    cases e
    exact ⟨v, h1, fin rfl (.nm h1) k⟩
  · rename_i t e1
    obtain ⟨v, G', h1, h2, _⟩ := p.eo.bor_at e1
    cases e
    cases h2 with
    | p h2 => exact ⟨v, h1, fin rfl (.rv (.p h2)) k⟩
  · rename_i d _ e1
    obtain ⟨v, G', h1, h2, _⟩ := p.eo.bor_at e1
    split at e
    · cases e
      exact ⟨v, h1, fin rfl (.bv h2) k⟩
    · cases e
  · cases e
theorem x_cst {Γ : List CT} {t : T} {Q : VK} (h : xE Γ K (.cst t) σ H Q) {v : V} (rt : RT K H v t) : Q v H := by
  obtain ⟨β, q, ρ, F, r, ρ', p, e, k⟩ := h
  cases e
  exact k v H F [] ⟨p.eo, .rv (.p rt), by rw [List.append_nil]; exact p.nd, by rw [List.append_nil]; exact .refl, (fun _ _ z => nomatch z), fun _ => .refl _⟩
/-- results read again, nothing new -/
theorem PstL.same {rs : List R} {vs : List V} (h : PstL K β q σ ρ H F rs ρ' vs H2 F2 G) (rr : RR K H2 σ r v []) : Pst K β q σ ρ H F r ρ' v H2 F2 [] :=
  ⟨h.eo, rr, by rw [List.append_nil]; exact h.nd.left, by rw [List.append_nil]; exact h.st.sub fun a ha => List.mem_append_left _ ha, (fun _ _ z => nomatch z), h.le⟩
theorem idx_evL {Γ : List CT} {a i : Ex} {x : R} (e : ev Γ q (.idx a i) ρ = some (x, ρ')) : ∃ r ri d k, evL Γ q [a, i] ρ = some ([r, ri], ρ') ∧ vals ρ' [r, ri] = some [d, k] ∧
    ((∃ z, itemD [d, k] = some z ∧ x = .rv z) ∨ ∃ ds j z, d = .l ds ∧ k = .p (.int j) ∧ atI ds j = some z ∧ x = .bv z) := by
  simp only [ev] at e
  split at e
  · rename_i r ρ1 e1
    split at e
    · rename_i ri ρ2 e2
      split at e
      · rename_i ds k e3 e4
        split at e
        · rename_i t e5
          cases e
          refine ⟨r, ri, .l ds, .p (.int k), by simp [evL, e1, e2], by simp [vals, e3, e4], .inl ⟨.p t, ?_, rfl⟩⟩
          simp [itemD, e5]
        · rename_i d hn e5
          split at e
          · cases e
          · cases e
            exact ⟨r, ri, .l ds, .p (.int k), by simp [evL, e1, e2], by simp [vals, e3, e4], .inr ⟨ds, k, d, rfl, rfl, e5, rfl⟩⟩
        · cases e
      · rename_i d k hn e3 e4
        split at e
        · rename_i z e5
          cases e
          exact ⟨r, ri, d, k, by simp [evL, e1, e2], by simp [vals, e3, e4], .inl ⟨z, e5, rfl⟩⟩
        · cases e
      · cases e
    · cases e
  · cases e
theorem x_idx {Γ : List CT} {a i : Ex} {Q : VK} (h : xE Γ K (.idx a i) σ H Q) : xE Γ K a σ H fun x H1 => xE Γ K i σ H1 fun y H2 => rIx K x y H2 Q := by
  obtain ⟨β, q, ρ, F, x, ρ', p, e, k⟩ := h
  obtain ⟨r, ri, d, kd, e1, e2, e3⟩ := idx_evL e
  refine xL_two (Q := fun vs H2 => ∀ x y, vs = [x, y] → rIx K x y H2 Q) ⟨β, q, ρ, F, [r, ri], ρ', p, e1, fun vs H2 F2 G2 h2 x' y' ex => ?_⟩ |>.mono fun v H1 h => h.mono fun u H2 h => h _ _ rfl
  subst ex
  obtain ⟨x1, y1, ex, hx, hy⟩ := rds2 (h2.rr.rds h2.eo e2)
  cases ex
  rcases e3 with ⟨z, e4, rfl⟩ | ⟨ds, j, z, rfl, rfl, e4, rfl⟩
  · exact s_item e4 hx hy fun v H3 n => by
      obtain ⟨G', h3⟩ := h2.new n
      exact k v H3 F2 G' h3
  · obtain ⟨p1, vs1, G1, rfl, hs, rr⟩ := hx.lst
    rw [hy.int]
    obtain ⟨v1, G', h5, h6, _⟩ := rr.at e4
    exact .inl ⟨p1, vs1, j, v1, rfl, rfl, .of hs, h5, k _ _ _ _ (h2.same (.bv h6))⟩
theorem RR.tru {k : Bool} (h : RR K H σ r v G) (eo : EO K H β σ ρ F) (e : truR ρ r = some k) : TruV K v H k := by
  unfold truR at e
  cases e1 : valR ρ r with
  | none => rw [e1] at e; cases e
  | some d =>
    rw [e1] at e
    have hr := h.rd eo e1
    have e : truD d = some k := e
    cases d with
    | p t =>
      cases t with
      | non => rw [hr.non]; cases e; rfl
      | bl b => rw [hr.bl]; cases e; rfl
      | int i => rw [hr.int]; cases e; rfl
      | str s =>
        rw [hr.str]
        simp only [truD] at e
        split at e
        · rename_i hl
          cases e
          exact ⟨by rw [← LIM_line]; exact hl, rfl⟩
        · cases e
      | tup ts =>
        obtain ⟨a, vs, rfl, hs, rr⟩ := hr.tup
        cases e
        refine .inr (.inl ⟨vs, hs, ?_⟩)
        cases rr <;> rfl
    | l ds =>
      obtain ⟨a, vs, G, rfl, hs, rr⟩ := hr.lst
      cases e
      refine .inl ⟨vs, .of hs, ?_⟩
      cases rr <;> rfl
    | u ds =>
      obtain ⟨a, vs, G, rfl, hs, rr⟩ := hr.seqs
      cases e
      refine .inr (.inl ⟨vs, hs, ?_⟩)
      cases rr <;> rfl
    | ro ts =>
      obtain ⟨a, vs, rfl, hs, rr⟩ := hr.roS
      cases e
      refine .inl ⟨vs, hs.l, ?_⟩
      cases rr <;> rfl
    | c ks vs => exact hr.notC.elim
/-- one behind another, of which only the places stay -/
theorem Pst.then_ {r2 : R} {v2 : V} {G2 : List Addr} (h : Pst K β q σ ρ H F r ρ1 v H1 F1 G) (h2 : Pst K β q σ ρ1 H1 F1 r2 ρ2 v2 H2 F2 G2) : Pst K β q σ ρ H F r2 ρ2 v2 H2 F2 G2 :=
  ⟨h2.eo, h2.rr, h2.nd, (h.st.trans (fun a ha => List.mem_append_left _ ha) h2.st id).sub fun a ha => List.mem_append_right _ ha, fun e a ha => by
    subst e
    exact h.st.q0.oldNone (h2.nq rfl a ha), fun e => (h.le e).trans (h2.le e)⟩
theorem PstT.then_ {r2 : R} {v2 : V} {G2 : List Addr} (h : PstT K β q σ ρ H F ρ1 H1 F1) (h2 : Pst K β q σ ρ1 H1 F1 r2 ρ2 v2 H2 F2 G2) : Pst K β q σ ρ H F r2 ρ2 v2 H2 F2 G2 :=
  ⟨h2.eo, h2.rr, h2.nd, (h.st.trans (fun a ha => ha) h2.st id).sub fun a ha => List.mem_append_right _ ha, fun e a ha => by
    subst e
    exact h.st.q0.oldNone (h2.nq rfl a ha), fun e => (h.le e).trans (h2.le e)⟩
theorem PstT.thenT (h : PstT K β q σ ρ H F ρ1 H1 F1) (h2 : PstT K β q σ ρ1 H1 F1 ρ2 H2 F2) : PstT K β q σ ρ H F ρ2 H2 F2 :=
  ⟨h2.eo, h2.nd, (h.st.trans (fun a ha => ha) h2.st id).sub fun a ha => List.mem_append_right _ ha, fun e => (h.le e).trans (h2.le e)⟩
theorem Pst.t (h : Pst K β q σ ρ H F r ρ1 v H1 F1 G) : PstT K β q σ ρ H F ρ1 H1 F1 := ⟨h.eo, h.nd.left, h.st.sub fun a ha => List.mem_append_left _ ha, h.le⟩
theorem PstT.pre (h : PstT K β q σ ρ H F ρ1 H1 F1) (nb : q = false → noB β) : Pre K β q σ ρ1 H1 F1 := ⟨nb, h.eo, h.nd⟩
theorem x_and {Γ : List CT} {a b : Ex} {Q : VK} (h : xE Γ K (.and_ a b) σ H Q) : tAndT K (xE Γ K a) (xE Γ K b) σ H Q := by
  obtain ⟨β, q, ρ, F, x, ρ', p, e, k⟩ := h
  simp only [ev] at e
  split at e
  · rename_i r ρ1 e1
    split at e
    · rename_i e2
      exact ⟨β, q, ρ, F, r, ρ1, p, e1, fun v H1 F1 G1 h1 => ⟨true, h1.rr.tru h1.eo e2, by
        refine ite_tt ?_
        exact ⟨β, q, ρ1, F1, x, ρ', h1.preS p.nb, e, fun v2 H2 F2 G2 h2 => k _ _ _ _ (h1.then_ h2)⟩⟩⟩
    · rename_i e2
      cases e
      exact ⟨β, q, ρ, F, x, ρ', p, e1, fun v H1 F1 G1 h1 => ⟨false, h1.rr.tru h1.eo e2, k _ _ _ _ h1⟩⟩
    · cases e
  · cases e
theorem x_or {Γ : List CT} {a b : Ex} {Q : VK} (h : xE Γ K (.or_ a b) σ H Q) : tOrT K (xE Γ K a) (xE Γ K b) σ H Q := by
  obtain ⟨β, q, ρ, F, x, ρ', p, e, k⟩ := h
  simp only [ev] at e
  split at e
  · rename_i r ρ1 e1
    split at e
    · rename_i e2
      cases e
      exact ⟨β, q, ρ, F, x, ρ', p, e1, fun v H1 F1 G1 h1 => ⟨true, h1.rr.tru h1.eo e2, k _ _ _ _ h1⟩⟩
    · rename_i e2
      exact ⟨β, q, ρ, F, r, ρ1, p, e1, fun v H1 F1 G1 h1 => ⟨false, h1.rr.tru h1.eo e2, by
        refine ite_ff ?_
        exact ⟨β, q, ρ1, F1, x, ρ', h1.preS p.nb, e, fun v2 H2 F2 G2 h2 => k _ _ _ _ (h1.then_ h2)⟩⟩⟩
    · cases e
  · cases e
theorem truR_B {k : Bool} : truR ρ (.rv (PF.B k)) = some k := rfl
/-- a bool behind a test -/
theorem PstT.bl {k : Bool} (h : PstT K β q σ ρ H F ρ1 H1 F1) : Pst K β q σ ρ H F (.rv (PF.B k)) ρ1 (.bl k) H1 F1 [] :=
  ⟨h.eo, .rv (.p (.bl k)), by rw [List.append_nil]; exact h.nd, by rw [List.append_nil]; exact h.st, (fun _ _ z => nomatch z), h.le⟩
theorem x_not {Γ : List CT} {a : Ex} {Q : VK} (h : xE Γ K (.not_ a) σ H Q) : tNotT K (xE Γ K a) σ H Q := by
  obtain ⟨β, q, ρ, F, x, ρ', p, e, k⟩ := h
  simp only [ev] at e
  split at e
  · rename_i r ρ1 e1
    split at e
    · rename_i c e2
      cases e
      exact ⟨β, q, ρ, F, r, ρ', p, e1, fun v H1 F1 G1 h1 => ⟨c, h1.rr.tru h1.eo e2, k _ _ _ _ h1.t.bl⟩⟩
    · cases e
  · cases e
theorem x_ifx {Γ : List CT} {c a b : Ex} {Q : VK} (h : xE Γ K (.ifx c a b) σ H Q) : tIf (xT Γ K c) (xE Γ K a) (xE Γ K b) σ H Q := by
  obtain ⟨β, q, ρ, F, x, ρ', p, e, k⟩ := h
  simp only [ev] at e
  split at e
  · rename_i r ρ1 e1
    split at e
    · rename_i e2
      refine ⟨β, q, ρ, F, r, ρ1, true, p, e1, e2, fun H1 F1 h1 => ?_⟩
      refine ite_tt ?_
      exact ⟨β, q, ρ1, F1, x, ρ', h1.pre p.nb, e, fun v2 H2 F2 G2 h2 => k _ _ _ _ (h1.then_ h2)⟩
    · rename_i e2
      refine ⟨β, q, ρ, F, r, ρ1, false, p, e1, e2, fun H1 F1 h1 => ?_⟩
      refine ite_ff ?_
      exact ⟨β, q, ρ1, F1, x, ρ', h1.pre p.nb, e, fun v2 H2 F2 G2 h2 => k _ _ _ _ (h1.then_ h2)⟩
    · cases e
  · cases e
/-! tests -/
theorem t_and {Γ : List CT} {a b : Ex} {Q : Bool → Hp → Prop} (h : xT Γ K (.and_ a b) σ H Q) : tAnd (xT Γ K a) (xT Γ K b) σ H Q := by
  obtain ⟨β, q, ρ, F, x, ρ', c, p, e, ec, k⟩ := h
  simp only [ev] at e
  split at e
  · rename_i r ρ1 e1
    split at e
    · rename_i e2
      refine ⟨β, q, ρ, F, r, ρ1, true, p, e1, e2, fun H1 F1 h1 => ?_⟩
      refine ite_tt ?_
      exact ⟨β, q, ρ1, F1, x, ρ', c, h1.pre p.nb, e, ec, fun H2 F2 h2 => k _ _ (h1.thenT h2)⟩
    · rename_i e2
      cases e
      rw [e2] at ec
      cases ec
      exact ⟨β, q, ρ, F, x, ρ', false, p, e1, e2, fun H1 F1 h1 => k _ _ h1⟩
    · cases e
  · cases e
theorem t_or {Γ : List CT} {a b : Ex} {Q : Bool → Hp → Prop} (h : xT Γ K (.or_ a b) σ H Q) : tOr (xT Γ K a) (xT Γ K b) σ H Q := by
  obtain ⟨β, q, ρ, F, x, ρ', c, p, e, ec, k⟩ := h
  simp only [ev] at e
  split at e
  · rename_i r ρ1 e1
    split at e
    · rename_i e2
      cases e
      rw [e2] at ec
      cases ec
      exact ⟨β, q, ρ, F, x, ρ', true, p, e1, e2, fun H1 F1 h1 => k _ _ h1⟩
    · rename_i e2
      refine ⟨β, q, ρ, F, r, ρ1, false, p, e1, e2, fun H1 F1 h1 => ?_⟩
      refine ite_ff ?_
      exact ⟨β, q, ρ1, F1, x, ρ', c, h1.pre p.nb, e, ec, fun H2 F2 h2 => k _ _ (h1.thenT h2)⟩
    · cases e
  · cases e
theorem t_not {Γ : List CT} {a : Ex} {Q : Bool → Hp → Prop} (h : xT Γ K (.not_ a) σ H Q) : tNot (xT Γ K a) σ H Q := by
  obtain ⟨β, q, ρ, F, x, ρ', c, p, e, ec, k⟩ := h
  simp only [ev] at e
  split at e
  · rename_i r ρ1 e1
    split at e
    · rename_i c' e2
      cases e
      cases ec
      exact ⟨β, q, ρ, F, r, ρ', c', p, e1, e2, fun H1 F1 h1 => k _ _ h1⟩
    · cases e
  · cases e
theorem t_ifx {Γ : List CT} {c a b : Ex} {Q : Bool → Hp → Prop} (h : xT Γ K (.ifx c a b) σ H Q) : xT Γ K c σ H fun k H1 => if k = true then xT Γ K a σ H1 Q else xT Γ K b σ H1 Q := by
  obtain ⟨β, q, ρ, F, x, ρ', c', p, e, ec, k⟩ := h
  simp only [ev] at e
  split at e
  · rename_i r ρ1 e1
    split at e
    · rename_i e2
      refine ⟨β, q, ρ, F, r, ρ1, true, p, e1, e2, fun H1 F1 h1 => ?_⟩
      refine ite_tt ?_
      exact ⟨β, q, ρ1, F1, x, ρ', c', h1.pre p.nb, e, ec, fun H2 F2 h2 => k _ _ (h1.thenT h2)⟩
    · rename_i e2
      refine ⟨β, q, ρ, F, r, ρ1, false, p, e1, e2, fun H1 F1 h1 => ?_⟩
      refine ite_ff ?_
      exact ⟨β, q, ρ1, F1, x, ρ', c', h1.pre p.nb, e, ec, fun H2 F2 h2 => k _ _ (h1.thenT h2)⟩
    · cases e
  · cases e
/-- a test that is a value's truth -/
theorem t_val {Γ : List CT} {a : Ex} {Q : Bool → Hp → Prop} (h : xT Γ K a σ H Q) : xE Γ K a σ H fun x H' => ∃ k, TruV K x H' k ∧ Q k H' := by
  obtain ⟨β, q, ρ, F, x, ρ', c, p, e, ec, k⟩ := h
  exact ⟨β, q, ρ, F, x, ρ', p, e, fun v H1 F1 G1 h1 => ⟨c, h1.rr.tru h1.eo ec, k _ _ h1.t⟩⟩
end
end PF

set_option Elab.async false
set_option linter.all false
set_option maxRecDepth 100000
/-! PF10: chains, methods, displays, calls -/
namespace PF
open PySem PySem.Spec PyProof.Rows L2
section
variable {K : PySem.W.Frag} {H H1 H2 : Hp} {β : List Bool} {σ : L2.St} {ρ ρ' ρ1 ρ2 : List S} {F F1 F2 A G : List Addr} {q q' : Bool} {r : R} {v : V} {Γ : List CT}
theorem Rd.frP {t : T} {F0 : List Addr} (h : Rd K H v (.p t)) (f : Fr H H1 F0) (m : MutF H F0) : Rd K H1 v (.p t) := ⟨[], .p (h.rt.fr f m)⟩
theorem RT.rd {t : T} (h : RT K H v t) : Rd K H v (.p t) := ⟨[], .p h⟩
theorem x_chain {o1 o2 : Op} {a b c : Ex} {Q : VK} (h : xE Γ K (.chain o1 o2 a b c) σ H Q) : xE Γ K a σ H fun x H1 => xE Γ K b σ H1 fun y H2 => ∃ X Y k, Rd K H2 x (.p X) ∧ Rd K H2 y (.p Y) ∧ opD o1 [.p X, .p Y] = some (B k) ∧
    ∀ v H3, NewV K H2 v (B k) H3 → v = .bl k ∧ if k = true then xE Γ K c σ H3 fun w H4 => ∃ Z z, Rd K H4 y (.p Y) ∧ Rd K H4 w (.p Z) ∧ opD o2 [.p Y, .p Z] = some z ∧ Meet K H4 z Q else Q (.bl false) H3 := by
  obtain ⟨β, q, ρ, F, x0, ρ', p, e, k⟩ := h
  simp only [ev] at e
  split at e
  · rename_i ra ρ1 e1
    split at e
    · rename_i x e2
      split at e
      · rename_i rb ρ2 e3
        split at e
        · rename_i y e4
          refine ⟨β, q, ρ, F, ra, ρ1, p, e1, fun vx H1 F1 G1 h1 => ⟨β, q, ρ1, F1, rb, ρ2, h1.preS p.nb, e3, fun vy H2 F2 G2 h2 => ?_⟩⟩
          have hx : Rd K H2 vx (.p x) := (h1.rr.rd h1.eo e2).frP h2.st.fr h1.eo.mt.ff
          have hy : Rd K H2 vy (.p y) := h2.rr.rd h2.eo e4
          have up : ∀ {k : Bool} {v : V} {H3 : Hp}, NewV K H2 v (B k) H3 → v = .bl k ∧ Fr H2 H3 [] ∧ PstT K β q σ ρ H F ρ2 H3 F2 := fun {k v H3} n => by
            obtain ⟨G', o, nd, nw, f⟩ := n
            have h3 : PstT K β q σ ρ H F ρ2 H2 F2 := h1.t.thenT h2.t
            exact ⟨(show Rd K H3 v (.p (.bl k)) from ⟨_, o⟩).bl, f, h3.eo.fr0 f, h3.nd, ⟨h3.st.nw, fun a ob e n => f a ob (h3.st.fr a ob e n) (fun z => nomatch z)⟩, h3.le⟩
          split at e
          · rename_i e5
            refine ⟨x, y, true, hx, hy, e5, fun v H3 n => ?_⟩
            obtain ⟨ev', f, h3⟩ := up n
            refine ⟨ev', ite_tt ?_⟩
            split at e
            · rename_i rc ρ3 e6
              split at e
              · rename_i z e7
                split at e
                · rename_i d e8
                  cases e
                  refine ⟨β, q, ρ2, F2, rc, ρ', h3.pre p.nb, e6, fun w H4 F4 G4 h4 => ⟨z, d, (hy.frP f .nil).frP h4.st.fr h3.eo.mt.ff, h4.rr.rd h4.eo e7, e8, fun v5 H5 n5 => ?_⟩⟩
                  have h5 : PstL K β q σ ρ H F [rc] ρ' [w] H4 F4 (G4 ++ []) := by
                    have := h3.then_ h4
                    exact ⟨this.eo, .cons this.rr .nil, by rw [List.append_nil]; exact this.nd, by rw [List.append_nil]; exact this.st, by rw [List.append_nil]; exact this.nq, this.le⟩
                  obtain ⟨G', h6⟩ := h5.new n5
                  exact k v5 H5 F4 G' h6
                · cases e
              · cases e
            · cases e
          · rename_i e5
            cases e
            refine ⟨x, y, false, hx, hy, e5, fun v H3 n => ?_⟩
            obtain ⟨ev', f, h3⟩ := up n
            exact ⟨ev', ite_ff (k _ _ _ _ h3.bl)⟩
          · cases e
        · cases e
      · cases e
    · cases e
  · cases e

/-! ### methods of lists and tuples -/
def tyF (K : PySem.W.Frag) (T : String) (x : V) (H : Hp) : Prop := (T = "list" ∧ ∃ p xs, x = .ref p ∧ SqL K H p xs) ∨ (T = "tuple" ∧ ∃ p xs, x = .ref p ∧ SqD K H p xs)
def tyD (T : String) (d : D) : Prop := (T = "list" ∧ ∀ t, d ≠ .p t) ∨ (T = "tuple" ∧ ∃ ts, d = .p (.tup ts))
theorem x_mth {o : Op} {a i : Ex} {Q : VK} (h : xE Γ K (.mth o a i) σ H Q) : xE Γ K a σ H fun x H1 => ∃ T, tyF K T x H1 ∧ xE Γ K i σ H1 fun y H2 => ∃ d k z, tyD T d ∧ Rd K H2 x d ∧ Rd K H2 y k ∧ opD o [d, k] = some z ∧ Meet K H2 z Q := by
  obtain ⟨β, q, ρ, F, x0, ρ', p, e, k⟩ := h
  simp only [ev] at e
  split at e
  · rename_i r ρ1 e1
    split at e
    · rename_i r2 ρ2 e2
      split at e
      · rename_i d0 d d2 e3 e4 e5
        split at e
        · rename_i hs
          cases e6 : opD o [d, d2] with
          | none => rw [e6] at e; cases e
          | some z =>
            rw [e6] at e
            cases e
            refine ⟨β, q, ρ, F, r, ρ1, p, e1, fun vx H1 F1 G1 h1 => ?_⟩
            have hx := h1.rr.rd h1.eo e3
            have rest : ∀ T, tyD T d → xE Γ K i σ H1 fun y H2 => ∃ d k z, tyD T d ∧ Rd K H2 vx d ∧ Rd K H2 y k ∧ opD o [d, k] = some z ∧ Meet K H2 z Q := fun T hT =>
              ⟨β, q || lent r, ρ1, F1, r2, ρ', h1.pre p.nb, e2, fun vy H2 F2 G2 h2 => by
                have h3 : PstL K β (q || lent r) σ ρ1 H1 F1 [r2] ρ' [vy] H2 F2 (G2 ++ []) := ⟨h2.eo, .cons h2.rr .nil, by rw [List.append_nil]; exact h2.nd, by rw [List.append_nil]; exact h2.st, by rw [List.append_nil]; exact h2.nq, h2.le⟩
                have h4 := PstL.cons h1 h3
                obtain ⟨x1, y1, ex, rx, ry⟩ := rds2 (h4.rr.rds h4.eo (show vals ρ' [r, r2] = some [d, d2] by simp [vals, e4, e5]))
                cases ex
                exact ⟨d, d2, z, hT, rx, ry, e6, fun v3 H3 n => by
                  obtain ⟨G', h5⟩ := h4.new n
                  exact k _ _ _ _ h5⟩⟩
            unfold sameK at hs
            split at hs
            · obtain ⟨a', vs, rfl, hq, _⟩ := hx.tupD
              exact ⟨"tuple", .inr ⟨rfl, _, _, rfl, hq⟩, rest _ (.inr ⟨rfl, _, rfl⟩)⟩
            · obtain ⟨a', vs, G', rfl, hq, _⟩ := hx.lst
              exact ⟨"list", .inl ⟨rfl, _, _, rfl, .of hq⟩, rest _ (.inl ⟨rfl, fun t z => nomatch z⟩)⟩
            · obtain ⟨a', vs, rfl, hq, _⟩ := hx.roS
              exact ⟨"list", .inl ⟨rfl, _, _, rfl, hq.l⟩, rest _ (.inl ⟨rfl, fun t z => nomatch z⟩)⟩
            · cases hs
        · cases e
      · cases e
    · cases e
  · cases e
theorem tyF_is {X : Cx} {pins : List (Addr × Obj)} {s : Shared} {T : String} {x : V} {u : Value} (I : Inv X pins σ H s) (r : RelV x u) (ty : tyF X.K T x H) :
    s.TypeIs u T ∧ ∀ a, u = .ref a → ∃ ob, s.heap.get? a = some ob ∧ ob.dict = none := by
  rcases ty with ⟨rfl, p, xs, rfl, hq⟩ | ⟨rfl, p, xs, rfl, hq⟩
  · exact tyV_is I r (.inl ⟨rfl, xs, hq⟩)
  · cases r
    obtain ⟨its, _, ht, _⟩ := I.tuple hq.t
    refine ⟨ht.typeIs, fun a e => ?_⟩
    cases e
    exact hq.obj I
/-- a method of lists and of tuples, by values -/
structure MtF (X : Cx) (name : Str) (r : String → V → List V → Hp → VK → Prop) : Prop where
  all : ∀ T, T = "list" ∨ T = "tuple" → ∃ id, PlainAttrs T ∧ Slot T name id ∧ typeOf (.builtin id) = pure (.type "method_descriptor") ∧ MtR X id (r T)
theorem pe_mF {X : Cx} {name : Str} {m : String → V → List V → Hp → VK → Prop} {o e : Expr} {apos cpos : Pos} {to te : TE} (hm : MtF X name m) (ho : PE X o to) (he : PE X e te)
    (hbase : attributeBase o name X.env (eval o X.env) = eval o X.env) (hline : (apos.endLine == cpos.line) = true) (hs : starEach [e] X.env = [(false, eval e X.env)]) :
    PE X (.Call (.Attribute o name apos) [e] [] cpos) (fun σ H Q => to σ H fun x H1 => ∃ T, tyF X.K T x H1 ∧ te σ H1 fun y H2 => m T x [y] H2 Q) := by
  refine ⟨fun pins s σ H Q I h => ?_⟩
  have few : ((backTo cpos (starEach [e] X.env)).all (fun x => !x.1) && (backToKw cpos (keywordEach [] X.env)).all (fun x => x.1.isSome) && decide ([e].length + ([] : List Keyword).length + (if ([] : List Keyword).isEmpty then 0 else 1) < 30)) = true := by
    rw [hs]; rfl
  refine wpAny_Call_method_late hbase few hline rfl (thn (ho.run pins s σ H _ I h) fun v s1 ⟨x, H1, I1, r1, T, ty, q1⟩ => ?_)
  obtain ⟨h1, h2⟩ := tyF_is I1 r1 ty
  obtain ⟨id, pa, sl, hty, hmt⟩ := hm.all T (ty.elim (fun z => .inl z.1) fun z => .inr z.1)
  refine ⟨T, id, pa, sl, hty, h1, h2, ?_⟩
  have hA := (pa_cons he pa_nil (by rw [hs]; rfl)).run cpos pins s1 σ H1 (fun vs H2 => m T x vs H2 Q) I1 q1
  rw [hs] at hA ⊢
  exact Calls.callWith_builtin rfl (Calls.evalArgs_plain (thn hA fun us s2 ⟨vs, H2, I2, r2, q2⟩ => hmt pins s2 σ H2 x vs v us Q I2 r1 r2 q2))

/-! ### displays -/
structure PstO (K : PySem.W.Frag) (β : List Bool) (q : Bool) (σ : L2.St) (ρ : List S) (H : Hp) (F : List Addr) (ds : List D) (ρ' : List S) (vs : List V) (H' : Hp) (F' G : List Addr) : Prop where
  eo : EO K H' β σ ρ' F'
  ow : OWs K H' vs ds G
  nd : ND (F' ++ G)
  st : Step q H F H' (F' ++ G)
  nq : q = true → ∀ a ∈ G, H a = none
  le : q = true → Le ρ ρ'
/-- a result taken over -/
theorem Pst.own {d : D} (h : Pst K β q σ ρ H F r ρ1 v H1 F1 G) (e : PF.own q ρ1 r = some (d, ρ2)) : ∃ F2 G2, EO K H1 β σ ρ2 F2 ∧ OW K H1 v d G2 ∧ ND (F2 ++ G2) ∧ Step q H F H1 (F2 ++ G2) ∧ (q = true → ∀ a ∈ G2, H a = none) ∧ (q = true → Le ρ ρ2) := by
  obtain ⟨eo, rr, nd, st, nq, le⟩ := h
  cases rr with
  | rv o => cases e; exact ⟨F1, G, eo, o, nd, st, nq, le⟩
  | bv o => cases e
  | nm hi =>
    simp only [PF.own] at e
    split at e
    · cases e
    · rename_i hq
      split at e
      · rename_i d' e1
        cases e
        obtain ⟨v', G', F', h1, h2, h3, h4⟩ := eo.val_at e1
        rw [hi] at h1
        cases h1
        refine ⟨F', G', h3, h2, nd.perm fun a => ?_, st.sub fun a ha => ?_, fun z => absurd z hq, fun z => absurd z hq⟩
        · simp only [ct_app]
          have := h4 a
          omega
        · rw [List.append_nil]
          have := mem_ct.mp ha
          have h4 := h4 a
          rw [ct_app] at this
          exact mem_ct.mpr (by omega)
      · cases e
theorem OW.behind {d : D} {F1 G1 A2 : List Addr} (h : OW K H1 v d G1) (nd : ND (F1 ++ G1)) (m : MutF H1 F1) (st : Step q H1 F1 H2 A2) : OW K H2 v d G1 :=
  h.fr st.fr m.ff fun a ha z => nd.apart (FF.sub z) ha
/-- results taken over -/
theorem owns : ∀ {rs : List R} {vs : List V} {ds : List D} {ρ1 ρ2 : List S} {F G : List Addr}, EO K H1 β σ ρ1 F → RRs K H1 σ rs vs G → ownL q ρ1 rs = some (ds, ρ2) →
    ∃ F2 G2, EO K H1 β σ ρ2 F2 ∧ OWs K H1 vs ds G2 ∧ (∀ a : Nat, List.count (α := Nat) a F2 + List.count a G2 = List.count a F + List.count a G) ∧ (q = true → G2 = G ∧ ρ2 = ρ1)
  | [], _, _, _, _, _, _, eo, .nil, e => by
    cases e
    exact ⟨_, [], eo, .nil, fun _ => rfl, fun _ => ⟨rfl, rfl⟩⟩
  | r :: rs, _, _, ρ1, _, F, _, eo, .cons rr hs, e => by
    simp only [ownL] at e
    split at e
    · rename_i d ρ3 e1
      split at e
      · rename_i ds' ρ4 e2
        cases e
        cases rr with
        | rv o =>
          cases e1
          obtain ⟨F2, G2, h1, h2, h3, h4⟩ := owns eo hs e2
          exact ⟨F2, _, h1, .cons o h2, fun a => by rw [ct_app, ct_app]; have := h3 a; omega, fun hq => ⟨by rw [(h4 hq).1], (h4 hq).2⟩⟩
        | bv o => cases e1
        | nm hi =>
          simp only [PF.own] at e1
          split at e1
          · cases e1
          · rename_i hq
            split at e1
            · rename_i d' e3
              cases e1
              obtain ⟨v', G', F', k1, k2, k3, k4⟩ := eo.val_at e3
              rw [hi] at k1
              cases k1
              obtain ⟨F2, G2, h1, h2, h3, h4⟩ := owns k3 hs e2
              exact ⟨F2, _, h1, .cons k2 h2, fun a => by rw [ct_app, List.nil_append]; have := h3 a; have := k4 a; omega, fun z => absurd z hq⟩
            · cases e1
      · cases e
    · cases e
theorem PstL.owns {rs : List R} {ds : List D} {vs : List V} (h : PstL K β q σ ρ H F rs ρ1 vs H1 F1 G) (e : ownL q ρ1 rs = some (ds, ρ2)) : ∃ F2 G2, PstO K β q σ ρ H F ds ρ2 vs H1 F2 G2 := by
  obtain ⟨F2, G2, h1, h2, h3, h4⟩ := PF.owns h.eo h.rr e
  refine ⟨F2, G2, h1, h2, h.nd.perm fun a => ?_, h.st.sub fun a ha => ?_, fun hq => ?_, fun hq => ?_⟩
  · simp only [ct_app]
    have := h3 a
    omega
  · have := mem_ct.mp ha
    have h3 := h3 a
    rw [ct_app] at this
    exact mem_ct.mpr (by rw [ct_app]; omega)
  · rw [(h4 hq).1]; exact h.nq hq
  · rw [(h4 hq).2]; exact h.le hq
/-- laid anew over what is held -/
theorem PstO.lay {ds : List D} {vs : List V} {c : Addr} {o : HO} {d : D} {w : V} {G' : List Addr} (h : PstO K β q σ ρ H F ds ρ' vs H2 F2 G) (hc : H2 c = none) (ow : OWs K (upd H2 c o) vs ds G → OW K (upd H2 c o) w d G') (hG : G' = c :: G ∨ G' = G) :
    Pst K β q σ ρ H F (.rv d) ρ' w (upd H2 c o) F2 G' := by
  have f : Fr H2 (upd H2 c o) [] := Fr.new hc
  have hs : ∀ a ∈ G', a = c ∨ a ∈ G := fun a ha => by
    rcases hG with e | e
    · rw [e] at ha; exact List.mem_cons.mp ha
    · rw [e] at ha; exact .inr ha
  refine ⟨h.eo.fr0 f, .rv (ow (h.ow.fr f .nil fun _ _ z => nomatch z)), fun a => ?_, ⟨fun a ha => ?_, fun a ob e n => f a ob (h.st.fr a ob e n) (fun z => nomatch z)⟩, fun e a ha => ?_, h.le⟩
  · have c0 := h.nd a
    rw [ct_app] at c0 ⊢
    rcases hG with e | e
    · subst e
      rw [List.count_cons]
      split
      · rename_i e
        have e' : c = a := by simpa using e
        subst e'
        have h1 : List.count (α := Nat) c F2 = 0 := List.count_eq_zero.mpr (h.eo.mt.ne hc)
        have h2 : List.count (α := Nat) c G = 0 := List.count_eq_zero.mpr (h.ow.mt.ne hc)
        omega
      · omega
    · rw [e]; exact c0
  · rcases List.mem_append.mp ha with ha | ha
    · exact h.st.nw a (List.mem_append_left _ ha)
    · rcases hs a ha with rfl | ha
      · exact h.st.newer hc
      · exact h.st.nw a (List.mem_append_right _ ha)
  · rcases hs a ha with rfl | ha
    · subst e; exact h.st.q0.oldNone hc
    · exact h.nq e a ha
theorem x_lst {xs : List Ex} {Q : VK} (h : xE Γ K (.lst xs) σ H Q) : xL Γ K xs σ H fun vs H1 => vs.length ≤ sizeLine ∧ ∀ c, H1 c = none → Q (.ref c) (upd H1 c (.lst vs)) := by
  obtain ⟨β, q, ρ, F, x0, ρ', p, e, k⟩ := h
  simp only [ev] at e
  split at e
  · rename_i rs ρ1 e1
    split at e
    · rename_i ds ρ2 e2
      split at e
      · rename_i hl
        cases e
        refine ⟨β, q, ρ, F, rs, ρ1, p, e1, fun vs H1 F0 G0 h0 => ?_⟩
        obtain ⟨F1, G1, h1⟩ := h0.owns e2
        exact ⟨by rw [h1.ow.len, ← LIM_line]; exact hl, fun c hc => k _ _ _ _ (h1.lay hc (fun o => .l upd_same o) (.inl rfl))⟩
      · cases e
    · cases e
  · cases e
theorem OWs.mkTup {a : Addr} {vs : List V} {ds : List D} {o : Obj} (ho : o.dict = none) (h : OWs K (upd H a (.frz o (.tup vs))) vs ds G) : OW K (upd H a (.frz o (.tup vs))) (.ref a) (mkTup ds) G := by
  unfold PF.mkTup
  cases e : pures ds with
  | none => exact .u (.inl ⟨o, upd_same, ho⟩) h
  | some ts =>
    rw [pures_eq e] at h
    obtain ⟨h1, h2⟩ := h.rts
    subst h2
    exact .p (.tup (.inl ⟨o, upd_same, ho⟩) h1)
theorem x_tup {xs : List Ex} {Q : VK} (h : xE Γ K (.tup xs) σ H Q) : xL Γ K xs σ H fun vs H1 => vs.length ≤ sizeLine ∧ ∀ c (o : Obj), H1 c = none → o.dict = none → Q (.ref c) (upd H1 c (.frz o (.tup vs))) := by
  obtain ⟨β, q, ρ, F, x0, ρ', p, e, k⟩ := h
  simp only [ev] at e
  split at e
  · rename_i rs ρ1 e1
    split at e
    · rename_i ds ρ2 e2
      split at e
      · rename_i hl
        cases e
        refine ⟨β, q, ρ, F, rs, ρ1, p, e1, fun vs H1 F0 G0 h0 => ?_⟩
        obtain ⟨F1, G1, h1⟩ := h0.owns e2
        exact ⟨by rw [h1.ow.len, ← LIM_line]; exact hl, fun c o hc ho => k _ _ _ _ (h1.lay hc (fun w => w.mkTup ho) (.inr rfl))⟩
      · cases e
    · cases e
  · cases e
theorem pe_tupF {X : Cx} {es : List Expr} {t : TA} {k : Nat} {pos : Pos} (h : PA X es t) : PE X (.Tuple es k pos) (fun σ H Q => t σ H fun vs H1 => vs.length ≤ sizeLine ∧ ∀ c (o : Obj), H1 c = none → o.dict = none → Q (.ref c) (upd H1 c (.frz o (.tup vs)))) := by
  refine ⟨fun pins s σ H Q I hq => ?_⟩
  refine wpAny_Tuple_spliced (thn (h.run pos pins s σ H _ I hq) fun us s1 ⟨xs, H1, I1, r, z, q⟩ => ⟨by rw [← r.length]; exact z, ?_⟩)
  have hg := Heap.get?_push_size s1.heap (o := { cls := .type "tuple", data := .seq us.toArray }) rfl
  exact ⟨.ref s1.heap.objs.size, _, I1.laid (t' := s1.toks) (o := .frz { cls := .type "tuple", data := .seq us.toArray } (.tup xs)) (fun b u e => Heap.get?_push_of_some _ e) (Nat.le_refl _) ⟨hg, z, us, r, ⟨_, hg, rfl, _, rfl⟩⟩, rfl, q _ _ (I1.hok.fresh (Nat.le_refl _)) rfl⟩
end
end PF

set_option Elab.async false
set_option linter.all false
set_option maxRecDepth 100000
/-! PF11: calls of defs -/
namespace PF
open PySem PySem.Spec PyProof.Rows L2
/-- what comes back in the arguments -/
inductive Bks (K : PySem.W.Frag) (H : Hp) : List V → List (Option D) → List Addr → Prop
  | nil : Bks K H [] [] []
  | some {v : V} {d : D} {G : List Addr} {vs : List V} {os : List (Option D)} {Gs : List Addr} : OW K H v d G → Bks K H vs os Gs → Bks K H (v :: vs) (some d :: os) (G ++ Gs)
  | none {v : V} {vs : List V} {os : List (Option D)} {Gs : List Addr} : Bks K H vs os Gs → Bks K H (v :: vs) (none :: os) Gs
structure PC (K : PySem.W.Frag) (H : Hp) (vs : List V) (Gs : List Addr) (d : D) (os : List (Option D)) (v : V) (H' : Hp) (G Gb : List Addr) : Prop where
  ow : OW K H' v d G
  bk : Bks K H' vs os Gb
  nd : ND (G ++ Gb)
  nw : ∀ a ∈ G ++ Gb, a ∈ Gs ∨ H a = none
  fr : PF.Fr H H' Gs
/-- what a def promises: to answer as c does -/
def spC (K : PySem.W.Frag) (c : CT) : Sp := fun vs H Q _ => ∃ ds Gs d os, OWs K H vs ds Gs ∧ ND Gs ∧ c ds = some (d, os) ∧ ∀ v H' G Gb, PC K H vs Gs d os v H' G Gb → Q v H'
theorem put_comm : ∀ (ρ : List S) {i j : Nat} (a b : S), i ≠ j → put (put ρ i a) j b = put (put ρ j b) i a
  | [], _, _, _, _, _ => rfl
  | _ :: _, 0, 0, _, _, h => absurd rfl h
  | _ :: _, 0, _ + 1, _, _, _ => rfl
  | _ :: _, _ + 1, 0, _, _, _ => rfl
  | x :: r, i + 1, j + 1, a, b, h => congrArg (x :: ·) (put_comm r a b (by omega))
theorem kill_put (ρ : List S) {i : Nat} (s : S) : ∀ {is : List Nat}, i ∉ is → kill (put ρ i s) is = put (kill ρ is) i s
  | [], _ => rfl
  | j :: is, h => by
    have h1 : i ≠ j := fun e => h (by simp [e])
    have h2 : i ∉ is := fun e => h (by simp [e])
    show put (kill (put ρ i s) is) j .no = put (put (kill ρ is) j .no) i s
    rw [kill_put ρ s h2, put_comm _ _ _ h1]
theorem look_kill (ρ : List S) {i : Nat} : ∀ {is : List Nat}, i ∉ is → look (kill ρ is) i = look ρ i
  | [], _ => rfl
  | j :: is, h => by
    have h1 : i ≠ j := fun e => h (by simp [e])
    have h2 : i ∉ is := fun e => h (by simp [e])
    show look (put (kill ρ is) j .no) i = _
    rw [look_put_ne _ _ h1, look_kill ρ h2]
section
variable {K : PySem.W.Frag} {H H1 H2 : Hp} {β : List Bool} {σ : L2.St} {ρ ρ' ρ1 ρ2 : List S} {F F1 F2 A G : List Addr} {q q' : Bool} {r : R} {v : V} {Γ : List CT}
theorem nodupB_cons {i : Nat} {is : List Nat} (h : nodupB (i :: is) = true) : i ∉ is ∧ nodupB is = true := by
  simp only [nodupB, Bool.and_eq_true, Bool.not_eq_true', List.contains_eq_mem, decide_eq_false_iff_not] at h
  exact h
/-- the arguments taken out of the places -/
theorem RRs.take {rs : List R} {vs : List V} (h : RRs K H σ rs vs G) (eo : EO K H β σ ρ F) : ∀ {ds : List D}, vals ρ rs = some ds → nodupB (nms rs) = true → (∀ d, R.bv d ∉ rs) →
    ∃ Gs F0, OWs K H vs ds Gs ∧ EO K H β σ (kill ρ (nms rs)) F0 ∧ ∀ a : Nat, List.count (α := Nat) a Gs + List.count a F0 = List.count a G + List.count a F := by
  induction h with
  | nil => intro ds e _ _; cases e; exact ⟨[], F, .nil, eo, fun a => rfl⟩
  | @cons r v G0 rs vs Gs0 h hs ih =>
    intro ds e nd nb
    simp only [vals] at e
    split at e
    · rename_i d ds' e1 e2
      cases e
      cases h with
      | rv o =>
        obtain ⟨Gs, F0, h1, h2, h3⟩ := ih e2 nd fun d z => nb d (List.mem_cons_of_mem _ z)
        cases e1
        exact ⟨_, F0, .cons o h1, h2, fun a => by rw [ct_app, ct_app]; have := h3 a; omega⟩
      | bv o => exact absurd List.mem_cons_self (nb _)
      | @nm i _ hi =>
        obtain ⟨n1, n2⟩ := nodupB_cons nd
        obtain ⟨Gs, F0, h1, h2, h3⟩ := ih e2 n2 fun d z => nb d (List.mem_cons_of_mem _ z)
        simp only [valR] at e1
        split at e1
        · rename_i d' e3
          cases e1
          rw [← look_kill ρ n1] at e3
          obtain ⟨v', G', F', k1, k2, k3, k4⟩ := h2.val_at e3
          rw [hi] at k1
          cases k1
          exact ⟨_, F', .cons k2 h1, k3, fun a => by rw [ct_app, ct_app]; have := h3 a; have := k4 a; simp only [List.count_nil]; omega⟩
        · cases e1
    · cases e
theorem RRs.temps {rs : List R} {vs : List V} (h : RRs K H σ rs vs G) : ∀ {ds : List D}, vals ρ rs = some ds → nms rs = [] → (∀ d, R.bv d ∉ rs) → OWs K H vs ds G := by
  induction h with
  | nil => intro ds e _ _; cases e; exact .nil
  | @cons r v G0 rs vs Gs0 h hs ih =>
    intro ds e nd nb
    simp only [vals] at e
    split at e
    · rename_i d ds' e1 e2
      cases e
      cases h with
      | rv o =>
        cases e1
        exact .cons o (ih e2 nd fun d z => nb d (List.mem_cons_of_mem _ z))
      | bv o => exact absurd List.mem_cons_self (nb _)
      | nm hi => cases nd
    · cases e
theorem back_nobv : ∀ {rs : List R} {os : List (Option D)} {ρ ρ' : List S}, back ρ rs os = some ρ' → ∀ d, R.bv d ∉ rs
  | [], _, _, _, _, d => by simp
  | .nm i :: rs, [], _, _, e, d => by cases e
  | .nm i :: rs, some x :: os, ρ, _, e, d => fun z => by
    rcases List.mem_cons.mp z with z | z
    · cases z
    · exact back_nobv (rs := rs) (os := os) (show back (put ρ i (.val x)) rs os = some _ from e) d z
  | .nm i :: rs, none :: os, ρ, _, e, d => fun z => by
    rcases List.mem_cons.mp z with z | z
    · cases z
    · exact back_nobv (rs := rs) (os := os) (show back (put ρ i .no) rs os = some _ from e) d z
  | .rv x :: rs, [], _, _, e, d => by cases e
  | .rv x :: rs, o :: os, _, _, e, d => fun z => by
    rcases List.mem_cons.mp z with z | z
    · cases z
    · exact back_nobv (rs := rs) e d z
  | .bv x :: rs, [], _, _, e, d => by cases e
  | .bv x :: rs, o :: os, _, _, e, d => by cases e
theorem back_nonm : ∀ {rs : List R} {os : List (Option D)} {ρ ρ' : List S}, back ρ rs os = some ρ' → nms rs = [] → ρ' = ρ
  | [], _, _, _, e, _ => by cases e; rfl
  | .nm i :: rs, _, _, _, e, n => by cases n
  | .rv x :: rs, [], _, _, e, n => by cases e
  | .rv x :: rs, o :: os, _, _, e, n => back_nonm (rs := rs) (os := os) e n
  | .bv x :: rs, [], _, _, e, n => by cases e
  | .bv x :: rs, o :: os, _, _, e, n => by cases e
/-- the arguments put back -/
theorem back_ok {H3 : Hp} : ∀ {rs : List R} {vs : List V} {os : List (Option D)} {ρ ρ' : List S} {G Gb F0 : List Addr}, RRs K H σ rs vs G → Bks K H3 vs os Gb → back ρ rs os = some ρ' → nodupB (nms rs) = true → EO K H3 β σ (kill ρ (nms rs)) F0 →
    ∃ F2, EO K H3 β σ ρ' F2 ∧ ∀ a : Nat, List.count (α := Nat) a F2 ≤ List.count a F0 + List.count a Gb
  | [], _, _, _, _, _, _, _, .nil, _, e, _, eo => by cases e; exact ⟨_, eo, fun a => by omega⟩
  | .rv x :: rs, _, _, _, _, _, _, _, .cons _ hs, .some o b, e, nd, eo => by
    obtain ⟨F2, h1, h2⟩ := back_ok (rs := rs) hs b e nd eo
    exact ⟨F2, h1, fun a => by rw [ct_app]; have := h2 a; omega⟩
  | .rv x :: rs, _, _, _, _, _, _, _, .cons _ hs, .none b, e, nd, eo => back_ok (rs := rs) hs b e nd eo
  | .bv x :: rs, _, _, _, _, _, _, _, .cons _ hs, .some o b, e, nd, eo => by cases e
  | .bv x :: rs, _, _, _, _, _, _, _, .cons _ hs, .none b, e, nd, eo => by cases e
  | .nm i :: rs, _, _, ρ, _, _, _, _, .cons (.nm hi) hs, .some (d := d) o b, e, nd, eo => by
    obtain ⟨n1, n2⟩ := nodupB_cons nd
    have hlen : i < σ.length := (List.getElem?_eq_some_iff.mp hi).1
    have eo1 : EO K H3 β σ (put (kill ρ (nms rs)) i .no) _ := eo
    have hl : i < (kill ρ (nms rs)).length := by have := eo1.len; rw [put_len] at this; omega
    obtain ⟨F', h1, h2⟩ := eo1.fill (look_put _ _ _ hl) hi o
    rw [put_put, ← kill_put ρ _ n1] at h2
    obtain ⟨F2, h3, h4⟩ := back_ok (rs := rs) hs b (show back (put ρ i (.val d)) rs _ = some _ from e) n2 h2
    exact ⟨F2, h3, fun a => by rw [ct_app]; have := h4 a; have := h1 a; omega⟩
  | .nm i :: rs, _, _, ρ, _, _, _, _, .cons (.nm hi) hs, .none b, e, nd, eo => by
    obtain ⟨n1, n2⟩ := nodupB_cons nd
    have eo1 : EO K H3 β σ (put (kill ρ (nms rs)) i .no) _ := eo
    rw [← kill_put ρ _ n1] at eo1
    exact back_ok (rs := rs) hs b (show back (put ρ i .no) rs _ = some _ from e) n2 eo1
theorem x_call {k : Nat} {es : List Ex} {Q : VK} {E : XK} (h : xE Γ K (.call k es) σ H Q) : xL Γ K es σ H fun vs H1 => ∃ c, Γ[k]? = some c ∧ spC K c vs H1 Q E := by
  obtain ⟨β, q, ρ, F, x0, ρ', p, e, kk⟩ := h
  simp only [ev] at e
  split at e
  · rename_i rs ρ1 e1
    split at e
    · rename_i c e2
      unfold callD at e
      split at e
      · cases e
      · rename_i ds e3
        split at e
        · rename_i hq
          split at e
          · rename_i d os e4
            cases e5 : back ρ1 rs os with
            | none => rw [e5] at e; cases e
            | some ρ9 =>
              rw [e5] at e
              cases e
              simp only [Bool.and_eq_true, Bool.or_eq_true, Bool.not_eq_true', List.isEmpty_iff] at hq
              obtain ⟨hnd, hq⟩ := hq
              refine ⟨β, q, ρ, F, rs, ρ1, p, e1, fun vs H1 F1 G1 h1 => ⟨c, e2, ?_⟩⟩
              cases q with
              | true =>
                have hn : nms rs = [] := by simpa using hq
                have ow := h1.rr.temps e3 hn (back_nobv e5)
                have e6 := back_nonm e5 hn
                subst e6
                refine ⟨ds, G1, d, os, ow, h1.nd.right, e4, fun v H2 G Gb pc => ?_⟩
                have f0 : Fr H H2 [] := fun a o ea _ => pc.fr a o (h1.st.q0 a o ea (fun z => nomatch z)) fun z => by
                  have := h1.nq rfl a z
                  rw [this] at ea; cases ea
                obtain ⟨F2, s2, eo2⟩ := p.eo.le (h1.le rfl)
                have nG : ∀ a ∈ G, H a = none := fun a ha => by
                  rcases pc.nw a (List.mem_append_left _ ha) with z | z
                  · exact h1.nq rfl a z
                  · exact h1.st.q0.oldNone z
                refine kk v H2 F2 G ⟨eo2.fr0 f0, .rv pc.ow, fun a => ?_, ⟨fun a ha => ?_, f0⟩, fun _ => nG, h1.le⟩
                · have c1 := p.nd.sb s2 a
                  have c2 := pc.nd.left a
                  rw [ct_app]
                  by_cases hg : a ∈ G
                  · have : List.count (α := Nat) a F2 = 0 := List.count_eq_zero.mpr (eo2.mt.ne (nG a hg))
                    omega
                  · have : List.count (α := Nat) a G = 0 := List.count_eq_zero.mpr hg
                    omega
                · rcases List.mem_append.mp ha with ha | ha
                  · exact .inl (s2.mem ha)
                  · exact .inr (nG a ha)
              | false =>
                obtain ⟨Gs, F0, ow, eo, hc⟩ := h1.rr.take h1.eo e3 hnd (back_nobv e5)
                have nd0 : ND (Gs ++ F0) := h1.nd.perm fun a => by rw [ct_app, ct_app]; have := hc a; omega
                have sub : ∀ a, a ∈ Gs ++ F0 → a ∈ F1 ++ G1 := fun a ha => by
                  have z := mem_ct.mp ha
                  rw [ct_app] at z
                  have := hc a
                  refine mem_ct.mpr ?_
                  rw [ct_app]
                  omega
                refine ⟨ds, Gs, d, os, ow, nd0.left, e4, fun v H2 G Gb pc => ?_⟩
                have eo3 : EO K H2 β σ (kill ρ1 (nms rs)) F0 := eo.fr pc.fr ow.mt (p.nb rfl) fun a ha z => nd0.apart z ha
                obtain ⟨F2, eo4, c4⟩ := back_ok h1.rr pc.bk e5 hnd eo3
                have nd5 : ND ((G ++ Gb) ++ F0) := nd0.keep eo.mt pc.nd pc.nw
                have st : Step false H F H2 ((G ++ Gb) ++ F0) := by
                  refine ⟨fun a ha => ?_, fun a o ea n => ?_⟩
                  · rcases List.mem_append.mp ha with ha | ha
                    · rcases pc.nw a ha with z | z
                      · exact h1.st.nw a (sub a (List.mem_append_left _ z))
                      · exact h1.st.newer z
                    · exact h1.st.nw a (sub a (List.mem_append_right _ ha))
                  · refine pc.fr a o (h1.st.fr a o ea n) fun z => ?_
                    rcases h1.st.nw a (sub a (List.mem_append_left _ z)) with w | w
                    · exact n w
                    · rw [w] at ea; cases ea
                refine kk v H2 F2 G ⟨eo4, .rv pc.ow, nd5.perm fun a => ?_, st.sub fun a ha => ?_, (fun z => nomatch z), fun z => nomatch z⟩
                · rw [ct_app, ct_app, ct_app]; have := c4 a; omega
                · have z := mem_ct.mp ha
                  rw [ct_app] at z
                  have := c4 a
                  refine mem_ct.mpr ?_
                  rw [ct_app, ct_app]
                  omega
          · cases e
        · cases e
    · cases e
  · cases e
end
end PF

set_option Elab.async false
set_option linter.all false
set_option maxRecDepth 100000
/-! PF12: what is walked, and comprehensions -/
namespace PF
open PySem PySem.Spec PyProof.Rows L2

def ItK (k : Bool) (K : PySem.W.Frag) (a : Addr) : It := if k = true then Itl K a else Itt K a
/-- a list or a tuple -/
def iSeq (K : PySem.W.Frag) (te : TE) : TI := fun σ H R => te σ H fun x H1 => ∃ k a xs, x = .ref a ∧ SqK k K H1 a xs ∧ R (ItK k K a) H1
theorem pi_seq {X : Cx} {tg e : Expr} {te : TE} (he : PE X e te) : PI X tg e (iSeq X.K te) := by
  refine ⟨fun pins s σ H R I h => thn (he.run pins s σ H _ I h) fun v s1 ⟨x, H1, I1, r1, k, a, xs, ex, hq, q⟩ => ?_⟩
  subst ex
  cases r1
  have here : ∀ b ∈ [s1.heap.objs.size], FpOk X pins H1 b := fun b hb => by
    rw [List.mem_singleton.mp hb]
    exact I1.fpOk (Nat.le_refl _) (I1.hok.fresh (Nat.le_refl _))
  cases k with
  | true =>
    obtain ⟨its, rv, p, _⟩ := I1.list (show SqL X.K H1 a xs from hq)
    exact wpAny_pyIter_list p.isList ⟨s1.heap.objs.size, [s1.heap.objs.size], _, _, H1, rfl, I1.kept (t' := s1.toks) (fun b o e => Heap.get?_push_of_some _ e), turn_list a _, ⟨_, Heap.get?_push_size _ rfl, rfl, rfl⟩, here, q⟩
  | false =>
    obtain ⟨its, rv, p, _⟩ := I1.tuple (show SqT X.K H1 a xs from hq)
    exact wpAny_pyIter_tuple (show s1.heap.IsTuple a its.toArray from p) ⟨s1.heap.objs.size, [s1.heap.objs.size], _, _, H1, rfl, I1.kept (t' := s1.toks) (fun b o e => Heap.get?_push_of_some _ e), turn_tuple a _, ⟨_, Heap.get?_push_size _ rfl, rfl, rfl⟩, here, q⟩

/-! ### what is walked, and its items -/
section
variable {K : PySem.W.Frag} {H H1 H2 : Hp} {β : List Bool} {σ σ' : L2.St} {ρ ρ' ρ1 ρ2 : List S} {F F1 F2 A G : List Addr} {q q' : Bool} {r : R} {v : V} {Γ : List CT}
inductive SW (K : PySem.W.Frag) (H : Hp) (σ : L2.St) : Sq → Bool → Addr → List Addr → Prop
  | tup {ts : List T} {a : Addr} {vs : List V} : SqD K H a vs → RTs K H vs ts → SW K H σ (.fix ts) false a []
  | ro {ts : List T} {a : Addr} {vs : List V} : SqF K H a vs → RTs K H vs ts → SW K H σ (.fix ts) true a []
  | tmp {ts : List T} {a : Addr} {vs : List V} : H a = some (.lst vs) → RTs K H vs ts → SW K H σ (.fix ts) true a [a]
  | live {i n : Nat} {a : Addr} : σ[i]? = some (some (.ref a)) → SW K H σ (.live i n) true a []
theorem SW.fr {F0 : List Addr} {w : Sq} {k : Bool} {a : Addr} (h : SW K H σ w k a G) (f : Fr H H1 F0) (m : MutF H F0) (ap : ∀ a ∈ G, a ∉ F0) : SW K H1 σ w k a G := by
  cases h with
  | tup h1 h2 => exact .tup (f.sqD m h1) (h2.fr f m)
  | ro h1 h2 => exact .ro (f.sqF m h1) (h2.fr f m)
  | tmp h1 h2 => exact .tmp (f _ _ h1 (ap _ List.mem_cons_self)) (h2.fr f m)
  | live h1 => exact .live h1
theorem SW.mt {w : Sq} {k : Bool} {a : Addr} (h : SW K H σ w k a G) : MutF H G := by
  cases h with
  | @tmp ts a vs h1 h2 =>
    intro b hb
    have e := List.mem_singleton.mp hb
    subst e
    exact ⟨.lst vs, h1, trivial⟩
  | _ => exact .nil
/-- names' values that are known in one are so in the other -/
def Less (σ' σ : L2.St) : Prop := ∀ (i : Nat) (v : V), σ'[i]? = some (some v) → σ[i]? = some (some v)
theorem EO.live {σ : L2.St} {i n : Nat} {a : Addr} (eo : EO K H β σ' ρ F) (l : Less σ' σ) (hi : σ[i]? = some (some (.ref a))) {ds : List D} (e : look ρ i = .val (.l ds)) : ∃ vs G, H a = some (.lst vs) ∧ OWs K H vs ds G := by
  obtain ⟨v, G, F', h1, h2, _⟩ := eo.val_at e
  have h3 := l _ _ h1
  rw [hi] at h3
  cases h3
  cases h2 with
  | l h4 h5 => exact ⟨_, _, h4, h5⟩
theorem SW.item {w : Sq} {k : Bool} {a : Addr} {t : T} {i : Nat} (h : SW K H σ w k a G) (eo : EO K H β σ' ρ F) (l : Less σ' σ) (e : w.at ρ i = some t) : ∃ vs x, SqK k K H a vs ∧ vs[i]? = some x ∧ RT K H x t := by
  cases h with
  | tup h1 h2 => obtain ⟨x, h3, h4⟩ := h2.get e; exact ⟨_, x, h1.t, h3, h4⟩
  | ro h1 h2 => obtain ⟨x, h3, h4⟩ := h2.get e; exact ⟨_, x, h1.l, h3, h4⟩
  | tmp h1 h2 => obtain ⟨x, h3, h4⟩ := h2.get e; exact ⟨_, x, SqL.of h1, h3, h4⟩
  | @live j n a h1 =>
    simp only [Sq.at, liveAt] at e
    split at e
    · rename_i t' e1
      cases e
      split at e1
      · rename_i ds e2
        split at e1
        · obtain ⟨vs, G, h3, h4⟩ := eo.live (n := n) l h1 e2
          obtain ⟨x, G', h5, h6, _⟩ := h4.get e1
          cases h6 with
          | p h6 => exact ⟨vs, x, SqL.of h3, h5, h6⟩
        · cases e1
      · cases e1
    · cases e
theorem SW.stop {w : Sq} {k : Bool} {a : Addr} (h : SW K H σ w k a G) (eo : EO K H β σ' ρ F) (l : Less σ' σ) (e : w.ok ρ = true) : ∃ vs, SqK k K H a vs ∧ vs.length = w.len := by
  cases h with
  | tup h1 h2 => exact ⟨_, h1.t, h2.len⟩
  | ro h1 h2 => exact ⟨_, h1.l, h2.len⟩
  | tmp h1 h2 => exact ⟨_, SqL.of h1, h2.len⟩
  | @live j n a h1 =>
    simp only [Sq.ok] at e
    split at e
    · rename_i ds e2
      obtain ⟨vs, G, h3, h4⟩ := eo.live (n := n) l h1 e2
      exact ⟨vs, SqL.of h3, by rw [h4.len]; exact of_decide_eq_true e⟩
    · cases e
theorem SqK.uni {X : Cx} {pins : List (Addr × Obj)} {s : Shared} {k : Bool} {a : Addr} {xs ys : List V} (I : Inv X pins σ H s) (h : SqK k X.K H a xs) (h2 : SqK k X.K H a ys) : xs = ys := SqK.inj I h h2
/-- the walk J goes as w says -/
inductive JW (K : PySem.W.Frag) (H : Hp) (σ : L2.St) : It → Wk → List Addr → Prop
  | one {a : Sq} {k : Bool} {p : Addr} {G : List Addr} : SW K H σ a k p G → JW K H σ (ItK k K p) (.one a) G
  | enum {a : Sq} {k : Bool} {p : Addr} {G : List Addr} : SW K H σ a k p G → JW K H σ (IteG k K p) (.enum a) G
  | zip {a b : Sq} {k k2 : Bool} {p p2 : Addr} {G G2 : List Addr} : SW K H σ a k p G → SW K H σ b k2 p2 G2 → JW K H σ (ItzG k k2 K p p2) (.zip a b) (G ++ G2)
  | rng {lo : Int} {n : Nat} : JW K H σ (Itr lo n) (.rng lo n) []
  | lent {p : Addr} {vs : List V} {ds : List D} {G : List Addr} : H p = some (.lst vs) → OWs K H vs ds G → JW K H σ (Itl K p) (.lent ds) []
theorem JW.fr {F0 : List Addr} {J : It} {w : Wk} (h : JW K H σ J w G) (f : Fr H H1 F0) (m : MutF H F0) (ap : ∀ a ∈ G, a ∉ F0) (l : w.isLent = true → F0 = []) : JW K H1 σ J w G := by
  cases h with
  | one h => exact .one (h.fr f m ap)
  | enum h => exact .enum (h.fr f m ap)
  | zip h1 h2 => exact .zip (h1.fr f m fun a ha => ap a (List.mem_append_left _ ha)) (h2.fr f m fun a ha => ap a (List.mem_append_right _ ha))
  | rng => exact .rng
  | lent h1 h2 =>
    have e := l rfl
    subst e
    exact .lent (f _ _ h1 fun z => nomatch z) (h2.fr f .nil fun _ _ z => nomatch z)
theorem JW.mt {J : It} {w : Wk} (h : JW K H σ J w G) : MutF H G := by
  cases h with
  | one h => exact h.mt
  | enum h => exact h.mt
  | zip h1 h2 => exact h1.mt.app h2.mt
  | rng => exact .nil
  | lent h1 h2 => exact .nil
theorem newPair {T : Addr} {o : Obj} {x y : V} {t u : PF.T} (hT : H T = none) (ho : o.dict = none) (hx : RT K H x t) (hy : RT K H y u) : NewV K H (.ref T) (.p (.tup [t, u])) (upd H T (.frz o (.tup [x, y]))) :=
  .tup hT ho (.cons hx (.cons hy .nil))
theorem SqK.at_ {k : Bool} {a : Addr} {vs : List V} (h : SqK k K H a vs) {P : List V → Prop} (i : ∀ xs, SqK k K H a xs → P xs) : P vs := i vs h
theorem JW.turn {J : It} {w : Wk} {i : Nat} {d : D} (h : JW K H σ J w G) (eo : EO K H β σ' ρ F) (l : Less σ' σ) (e : w.at ρ i = some d) :
    J.go i H ∧ ∀ x H', J.yld i H x H' → (w.isLent = false → NewV K H x d H') ∧ (w.isLent = true → H' = H ∧ ∃ G', OW K H x d G') := by
  cases h with
  | @one a k p _ h =>
    simp only [Wk.at] at e
    cases e1 : a.at ρ i with
    | none => rw [e1] at e; cases e
    | some t =>
      rw [e1] at e; cases e
      obtain ⟨vs, x, h1, h2, h3⟩ := h.item eo l e1
      cases k with
      | true =>
        refine ⟨⟨vs, x, h1, h2⟩, fun y H' ⟨e2, h4⟩ => ⟨fun _ => ?_, fun z => nomatch z⟩⟩
        have := h4 vs h1
        rw [h2] at this
        cases this
        rw [e2]
        exact .p h3
      | false =>
        refine ⟨⟨vs, x, h1, h2⟩, fun y H' ⟨e2, h4⟩ => ⟨fun _ => ?_, fun z => nomatch z⟩⟩
        have := h4 vs h1
        rw [h2] at this
        cases this
        rw [e2]
        exact .p h3
  | @enum a k p _ h =>
    simp only [Wk.at] at e
    cases e1 : a.at ρ i with
    | none => rw [e1] at e; cases e
    | some t =>
      rw [e1] at e; cases e
      obtain ⟨vs, x, h1, h2, h3⟩ := h.item eo l e1
      refine ⟨⟨vs, x, h1, h2⟩, fun y H' ⟨T, x', o, e2, hT, ho, e3, h4⟩ => ⟨fun _ => ?_, fun z => nomatch z⟩⟩
      have := h4 vs h1
      rw [h2] at this
      cases this
      rw [e2, e3]
      exact newPair hT ho (.int _) h3
  | @zip a b k k2 p p2 G1 G2 h h' =>
    simp only [Wk.at] at e
    split at e
    · rename_i t u e1 e2
      split at e
      · cases e
        obtain ⟨vs, x, h1, h2, h3⟩ := h.item eo l e1
        obtain ⟨ws, y, h5, h6, h7⟩ := h'.item eo l e2
        refine ⟨⟨vs, ws, x, y, h1, h5, h2, h6⟩, fun z H' ⟨T, x', y', o, e2, hT, ho, e3, h4, h8⟩ => ⟨fun _ => ?_, fun z => nomatch z⟩⟩
        have e4 := h4 vs h1
        have e5 := h8 ws h5
        rw [h2] at e4
        rw [h6] at e5
        cases e4
        cases e5
        rw [e2, e3]
        exact newPair hT ho h3 h7
      · cases e
    · cases e
  | rng =>
    simp only [Wk.at] at e
    split at e
    · rename_i hl
      cases e
      refine ⟨hl, fun x H' ⟨e2, e3⟩ => ⟨fun _ => ?_, fun z => nomatch z⟩⟩
      rw [e2, e3]
      exact .int _
    · cases e
  | @lent p vs ds G h1 h2 =>
    have e : ds[i]? = some d := e
    obtain ⟨x, G', h3, h4, _⟩ := h2.get e
    refine ⟨⟨vs, x, .of h1, h3⟩, fun y H' ⟨e2, h5⟩ => ⟨fun z => (nomatch z), fun _ => ⟨e2, G', ?_⟩⟩⟩
    have := h5 vs (.of h1)
    rw [h3] at this
    cases this
    exact h4
theorem JW.stop {J : It} {w : Wk} (h : JW K H σ J w G) (eo : EO K H β σ' ρ F) (l : Less σ' σ) (e : w.ok ρ = true) : J.stop w.len H := by
  cases h with
  | @one a k p _ h =>
    obtain ⟨vs, h1, h2⟩ := h.stop eo l e
    cases k with
    | true => exact ⟨vs, h1, Nat.le_of_eq h2⟩
    | false => exact ⟨vs, h1, Nat.le_of_eq h2⟩
  | @enum a k p _ h =>
    obtain ⟨vs, h1, h2⟩ := h.stop eo l e
    exact ⟨vs, h1, h2⟩
  | @zip a b k k2 p p2 G1 G2 h h' =>
    simp only [Wk.ok, Bool.and_eq_true] at e
    obtain ⟨vs, h1, h2⟩ := h.stop eo l e.1
    obtain ⟨ws, h3, h4⟩ := h'.stop eo l e.2
    refine ⟨vs, ws, h1, h3, ?_, ?_, ?_⟩
    · show min a.len b.len ≤ _; omega
    · show min a.len b.len ≤ _; omega
    · show vs.length = min a.len b.len ∨ ws.length = min a.len b.len; omega
  | rng => exact Nat.le_refl _
  | @lent p vs ds G h1 h2 => exact ⟨vs, .of h1, Nat.le_of_eq h2.len⟩

/-! ### the sources -/
theorem sq_of {w : Sq} (h : RR K H σ r v G) (eo : EO K H β σ ρ F) (e : sqOf ρ r = some w) : ∃ k p G', v = .ref p ∧ SW K H σ w k p G' ∧ Sb G' G ∧ ∃ xs, SqK k K H p xs := by
  unfold sqOf at e
  split at e
  · cases e
    cases h with
    | rv o =>
      obtain ⟨a, vs, rfl, h1, h2⟩ := Rd.tupD ⟨_, o⟩
      exact ⟨false, a, [], rfl, .tup h1 h2, fun a => by simp, vs, h1.t⟩
  · cases e
    cases h with
    | rv o =>
      obtain ⟨a, vs, rfl, h1, h2⟩ := Rd.roS ⟨_, o⟩
      exact ⟨true, a, [], rfl, .ro h1 h2, fun a => by simp, vs, h1.l⟩
  · rename_i ds
    cases e1 : pures ds with
    | none => rw [e1] at e; cases e
    | some ts =>
      rw [e1] at e; cases e
      cases h with
      | rv o =>
        cases o with
        | @l a vs ds G0 h1 h2 =>
          rw [pures_eq e1] at h2
          obtain ⟨h3, h4⟩ := h2.rts
          subst h4
          exact ⟨true, a, [a], rfl, .tmp h1 h3, Sb.refl _, vs, SqL.of h1⟩
  · rename_i i
    split at e
    · rename_i ts e1
      cases e
      cases h with
      | nm hi =>
        obtain ⟨v', G', F', h1, h2, _⟩ := eo.val_at e1
        rw [hi] at h1
        cases h1
        obtain ⟨a, vs, rfl, h1, h2⟩ := Rd.roS ⟨_, h2⟩
        exact ⟨true, a, [], rfl, .ro h1 h2, fun a => by simp, vs, h1.l⟩
    · rename_i ds e1
      cases e2 : pures ds with
      | none => rw [e2] at e; cases e
      | some ts =>
        rw [e2] at e; cases e
        cases h with
        | nm hi =>
          obtain ⟨v', G', F', h1, h2, _⟩ := eo.val_at e1
          rw [hi] at h1
          cases h1
          cases h2 with
          | @l a vs _ G0 h1 h2 => exact ⟨true, a, [], rfl, .live hi, fun a => by simp, vs, SqL.of h1⟩
    · cases e
  · cases e
theorem src_l {w : Wk} (h : RR K H σ r v G) (eo : EO K H β σ ρ F) (e : srcL ρ r = some w) : ∃ p xs, v = .ref p ∧ JW K H σ (Itl K p) w [] ∧ SqL K H p xs := by
  unfold srcL at e
  have fin : ∀ {ds : List D} {G : List Addr}, OW K H v (.l ds) G → ∃ p xs, v = .ref p ∧ JW K H σ (Itl K p) (.lent ds) [] ∧ SqL K H p xs := fun {ds G} o => by
    cases o with
    | l h1 h2 => exact ⟨_, _, rfl, .lent h1 h2, .of h1⟩
  split at e
  · cases e
    cases h with
    | rv o => exact fin o
  · split at e
    · rename_i ds e1
      cases e
      cases h with
      | nm hi =>
        obtain ⟨v', G', F', h1, h2, _⟩ := eo.val_at e1
        rw [hi] at h1
        cases h1
        exact fin h2
    · cases e
  · cases e
    cases h with
    | bv o => exact fin o
  · cases e
def xI (Γ : List CT) (K : PySem.W.Frag) : Nat → List Ex → TI
  | 0, [e] => iSeq K (xE Γ K e)
  | 1, es => iRng1 (xL Γ K es)
  | 2, es => iRng2 (xL Γ K es)
  | 3, es => iEnumG K (xL Γ K es)
  | 4, es => iZipG K (xL Γ K es)
  | _, _ => fun _ _ _ => False
theorem rngOk_of {a b : Int} (h : rngOk a b = true) : -(2 ^ 62) ≤ a ∧ a < 2 ^ 62 ∧ -(2 ^ 62) ≤ b ∧ b < 2 ^ 62 := by
  unfold rngOk at h
  simp only [Bool.and_eq_true, decide_eq_true_eq] at h
  exact ⟨h.1.1.1, h.1.1.2, h.1.2, h.2⟩
/-- behind the source -/
structure PstS (K : PySem.W.Frag) (β : List Bool) (q : Bool) (σ : L2.St) (ρ : List S) (H : Hp) (F : List Addr) (w : Wk) (ρ' : List S) (J : It) (H' : Hp) (F' G : List Addr) : Prop where
  eo : EO K H' β σ ρ' F'
  jw : JW K H' σ J w G
  nd : ND (F' ++ G)
  st : Step q H F H' (F' ++ G)
  le : q = true → Le ρ ρ'
theorem one_rr {rs : List R} {vs : List V} {r : R} (h : RRs K H σ [r] vs G) : ∃ v, vs = [v] ∧ RR K H σ r v G := by
  cases h with
  | cons h t => cases t; rw [List.append_nil]; exact ⟨_, rfl, h⟩
theorem two_rr {vs : List V} {r r2 : R} (h : RRs K H σ [r, r2] vs G) : ∃ v u G1 G2, vs = [v, u] ∧ RR K H σ r v G1 ∧ RR K H σ r2 u G2 ∧ G = G1 ++ G2 := by
  cases h with
  | cons h t =>
    obtain ⟨u, rfl, h2⟩ := one_rr (rs := []) t
    exact ⟨_, _, _, _, rfl, h, h2, rfl⟩
theorem PstL.src {rs : List R} {vs : List V} {J : It} {w : Wk} {G' : List Addr} (h : PstL K β q σ ρ H F rs ρ1 vs H1 F1 G) (j : JW K H1 σ J w G') (s : Sb G' G) : PstS K β q σ ρ H F w ρ1 J H1 F1 G' :=
  ⟨h.eo, j, h.nd.perm fun a => by rw [ct_app, ct_app]; have := s a; omega, h.st.sub fun a ha => by
    rcases List.mem_append.mp ha with ha | ha
    · exact List.mem_append_left _ ha
    · exact List.mem_append_right _ (s.mem ha), h.le⟩
theorem x_src {kind : Nat} {src : List Ex} {rs : List R} {w : Wk} {R0 : It → Hp → Prop} (p : Pre K β q σ ρ H F) (e : evL Γ q src ρ = some (rs, ρ1)) (ek : srcK ρ1 kind rs = some w)
    (k : ∀ J H1 F1 G, PstS K β q σ ρ H F w ρ1 J H1 F1 G → R0 J H1) : xI Γ K kind src σ H R0 := by
  have lenL : ∀ {xs : List Ex} {q : Bool} {ρ ρ1 : List S} {rs : List R}, evL Γ q xs ρ = some (rs, ρ1) → xs.length = rs.length := by
    intro xs
    induction xs with
    | nil => intro q ρ ρ1 rs e; cases e; rfl
    | cons x xs ih =>
      intro q ρ ρ1 rs e
      simp only [evL] at e
      split at e
      · split at e
        · rename_i e2
          cases e
          exact congrArg (· + 1) (ih e2)
        · cases e
      · cases e
  have hl := lenL e
  unfold srcK at ek
  split at ek
  · rename_i r
    obtain ⟨x, rfl⟩ : ∃ x, src = [x] := by
      cases src with
      | nil => cases hl
      | cons x t => cases t with
        | nil => exact ⟨x, rfl⟩
        | cons _ _ => simp at hl
    refine xL_one (Q := fun vs H1 => ∃ k a xs, vs = [.ref a] ∧ SqK k K H1 a xs ∧ R0 (ItK k K a) H1) ⟨β, q, ρ, F, [r], ρ1, p, e, fun vs H1 F1 G1 h1 => ?_⟩ |>.mono fun v H1 ⟨k, a, xs, e1, h⟩ => ?_
    · obtain ⟨v, rfl, rr⟩ := one_rr (rs := []) h1.rr
      split at ek
      · rename_i a e1
        cases ek
        obtain ⟨k', p', G', rfl, sw, sb, xs, hs⟩ := sq_of rr h1.eo e1
        exact ⟨k', p', xs, rfl, hs, k _ _ _ _ (h1.src (.one sw) sb)⟩
      · obtain ⟨p', xs, rfl, jw, hs⟩ := src_l rr h1.eo ek
        exact ⟨true, p', xs, rfl, hs, k _ _ _ _ (h1.src jw fun a => by simp)⟩
    · cases e1
      exact ⟨k, a, xs, rfl, h⟩
  · rename_i r
    split at ek
    · rename_i b e1
      unfold rngS at ek
      split at ek
      · rename_i hb
        cases ek
        refine ⟨β, q, ρ, F, [r], ρ1, p, e, fun vs H1 F1 G1 h1 => ?_⟩
        obtain ⟨v, rfl, rr⟩ := one_rr (rs := []) h1.rr
        have hv := (rr.rd h1.eo e1).int
        subst hv
        obtain ⟨_, _, b1, b2⟩ := rngOk_of hb
        exact ⟨b, rfl, b1, b2, k _ _ _ _ (h1.src (by rw [Int.sub_zero]; exact .rng) fun a => by simp)⟩
      · cases ek
    · cases ek
  · rename_i r r2
    split at ek
    · rename_i a b e1 e2
      unfold rngS at ek
      split at ek
      · rename_i hb
        cases ek
        refine ⟨β, q, ρ, F, [r, r2], ρ1, p, e, fun vs H1 F1 G1 h1 => ?_⟩
        obtain ⟨v, u, _, _, rfl, rr, rr2, _⟩ := two_rr h1.rr
        have hv := (rr.rd h1.eo e1).int
        have hu := (rr2.rd h1.eo e2).int
        subst hv hu
        exact ⟨a, b, rfl, rngOk_of hb, k _ _ _ _ (h1.src .rng fun a => by simp)⟩
      · cases ek
    · cases ek
  · rename_i r
    cases e1 : sqOf ρ1 r with
    | none => rw [e1] at ek; cases ek
    | some a =>
      rw [e1] at ek; cases ek
      refine ⟨β, q, ρ, F, [r], ρ1, p, e, fun vs H1 F1 G1 h1 => ?_⟩
      obtain ⟨v, rfl, rr⟩ := one_rr (rs := []) h1.rr
      obtain ⟨k', p', G', rfl, sw, sb, xs, hs⟩ := sq_of rr h1.eo e1
      exact ⟨k', p', xs, rfl, hs, k _ _ _ _ (h1.src (.enum sw) sb)⟩
  · rename_i r r2
    split at ek
    · rename_i a b e1 e2
      cases ek
      refine ⟨β, q, ρ, F, [r, r2], ρ1, p, e, fun vs H1 F1 G1 h1 => ?_⟩
      obtain ⟨v, u, Ga, Gb, rfl, rr, rr2, eg⟩ := two_rr h1.rr
      obtain ⟨k', p', G', rfl, sw, sb, xs, hs⟩ := sq_of rr h1.eo e1
      obtain ⟨k2, p2, G2, rfl, sw2, sb2, xs2, hs2⟩ := sq_of rr2 h1.eo e2
      have fin := k _ _ _ _ (h1.src (.zip sw sw2) fun a => by rw [eg, ct_app, ct_app]; have := sb a; have := sb2 a; omega)
      exact ⟨k', k2, p', p2, xs, xs2, rfl, hs, hs2, fin⟩
    · cases ek
  · cases ek
end
end PF

set_option Elab.async false
set_option linter.all false
set_option maxRecDepth 100000
/-! PF13: targets; comprehensions -/
namespace PF
open PySem PySem.Spec PyProof.Rows L2
def gNames : List Nat → TGs
  | [] => gNil
  | i :: is => gCons (gName i) (gNames is)
def gT (K : PySem.W.Frag) : Tg → TG
  | .one i => gName i
  | .many is => gTup K is.length (gNames is)
section
variable {K : PySem.W.Frag} {H H1 H2 : Hp} {β : List Bool} {σ σ' : L2.St} {ρ ρ' ρ1 ρ2 : List S} {F F1 F2 A G : List Addr} {q q' : Bool} {r : R} {v : V} {Γ : List CT}
theorem set_over {α : Type} {l : List α} {i : Nat} {x : α} (h : l.length ≤ i) : l.set i x = l := by
  rw [List.set_eq_of_length_le h]
theorem put_over : ∀ (ρ : List S) (i : Nat) (s : S), ρ.length ≤ i → put ρ i s = ρ
  | [], _, _, _ => rfl
  | _ :: _, 0, _, h => by simp at h
  | x :: r, i + 1, s, h => congrArg (x :: ·) (put_over r i s (by simpa using h))
theorem EO.store' {i : Nat} {d : D} (h : EO K H β σ ρ F) (o : OW K H v d G) : ∃ F', Sb F' (F ++ G) ∧ EO K H β (σ.set i (some v)) (put ρ i (.val d)) F' := by
  by_cases hi : i < σ.length
  · exact h.store hi o
  · rw [set_over (by omega), put_over _ _ _ (by rw [h.len]; omega)]
    exact ⟨F, fun a => by rw [ct_app]; omega, h⟩
theorem EO.storeB' {i : Nat} {d : D} (h : EO K H β σ ρ F) (hb : i < β.length → β[i]? = some true) (o : OW K H v d G) : ∃ F', Sb F' F ∧ EO K H β (σ.set i (some v)) (put ρ i (.bor d)) F' := by
  by_cases hi : i < σ.length
  · exact h.storeB hi (hb (by rw [h.lenB]; exact hi)) o
  · rw [set_over (by omega), put_over _ _ _ (by rw [h.len]; omega)]
    exact ⟨F, Sb.refl _, h⟩
/-- what a target's names become -/
structure Bd (σ σ2 : L2.St) (is : List Nat) : Prop where
  len : σ2.length = σ.length
  out : ∀ j, j ∉ is → σ2[j]? = σ[j]?
theorem Bd.refl (is : List Nat) : Bd σ σ is := ⟨rfl, fun _ _ => rfl⟩
theorem Bd.set {i : Nat} {x : Option V} {is : List Nat} (h : Bd (σ.set i x) σ' is) : Bd σ σ' (i :: is) :=
  ⟨by rw [h.len, List.length_set], fun j hj => by
    simp only [List.mem_cons, not_or] at hj
    rw [h.out j hj.2, List.getElem?_set_ne (Ne.symm hj.1)]⟩
theorem g_names {Q : L2.St → Hp → Prop} : ∀ {is : List Nat} {vs : List V} {ds : List D} {σ : L2.St} {ρ ρ2 : List S} {F G : List Addr}, EO K H β σ ρ F → OWs K H vs ds G → putAll ρ is (ds.map .val) = some ρ2 →
    (∀ σ2 F2, EO K H β σ2 ρ2 F2 → Sb F2 (F ++ G) → Bd σ σ2 is → Q σ2 H) → gNames is vs σ H Q
  | [], _, [], _, _, _, _, _, eo, .nil, e, k => by
    cases e
    exact ⟨rfl, k _ _ eo (by rw [List.append_nil]; exact Sb.refl _) (.refl _)⟩
  | [], _, _ :: _, _, _, _, _, _, eo, .cons _ _, e, k => by cases e
  | _ :: _, _, [], _, _, _, _, _, eo, .nil, e, k => by cases e
  | i :: is, _, d :: ds, _, _, _, _, _, eo, .cons o os, e, k => by
    refine ⟨_, _, rfl, ?_⟩
    obtain ⟨F1, h1, h2⟩ := eo.store' (i := i) o
    exact g_names h2 os e fun σ2 F2 h3 h4 h5 => k σ2 F2 h3 (fun a => by
      have := h4 a
      have := h1 a
      simp only [ct_app] at *
      omega) h5.set
theorem g_namesB {Q : L2.St → Hp → Prop} : ∀ {is : List Nat} {vs : List V} {ds : List D} {σ : L2.St} {ρ ρ2 : List S} {F G : List Addr}, EO K H β σ ρ F → OWs K H vs ds G → (∀ i ∈ is, i < β.length → β[i]? = some true) → putAll ρ is (ds.map .bor) = some ρ2 →
    (∀ σ2 F2, EO K H β σ2 ρ2 F2 → Sb F2 F → Bd σ σ2 is → Q σ2 H) → gNames is vs σ H Q
  | [], _, [], _, _, _, _, _, eo, .nil, hb, e, k => by
    cases e
    exact ⟨rfl, k _ _ eo (Sb.refl _) (.refl _)⟩
  | [], _, _ :: _, _, _, _, _, _, eo, .cons _ _, hb, e, k => by cases e
  | _ :: _, _, [], _, _, _, _, _, eo, .nil, hb, e, k => by cases e
  | i :: is, _, d :: ds, _, _, _, _, _, eo, .cons o os, hb, e, k => by
    refine ⟨_, _, rfl, ?_⟩
    obtain ⟨F1, h1, h2⟩ := eo.storeB' (i := i) (hb i List.mem_cons_self) o
    exact g_namesB h2 os (fun j hj => hb j (List.mem_cons_of_mem _ hj)) e fun σ2 F2 h3 h4 h5 => k σ2 F2 h3 (h4.trans h1) h5.set
theorem unpk_ow {d : D} {ds : List D} (o : OW K H v d G) (e : unpk d = some ds) : ∃ a vs, v = .ref a ∧ SqT K H a vs ∧ OWs K H vs ds G := by
  unfold unpk at e
  split at e
  · cases e
    cases o with
    | p r =>
      cases r with
      | tup h1 h2 => exact ⟨_, _, rfl, h1.t, .pure h2⟩
  · cases e
    cases o with
    | u h1 h2 => exact ⟨_, _, rfl, h1.t, h2⟩
  · cases e
theorem g_val {tg : Tg} {d : D} {Q : L2.St → Hp → Prop} (eo : EO K H β σ ρ F) (o : OW K H v d G) (e : bind false tg d ρ = some ρ2)
    (k : ∀ σ2 F2, EO K H β σ2 ρ2 F2 → Sb F2 (F ++ G) → Bd σ σ2 tg.own → Q σ2 H) : gT K tg v σ H Q := by
  cases tg with
  | one i =>
    cases e
    obtain ⟨F1, h1, h2⟩ := eo.store' (i := i) o
    exact k _ _ h2 h1 (Bd.set (.refl _))
  | many is =>
    simp only [bind] at e
    split at e
    · rename_i ds e1
      obtain ⟨a, vs, rfl, h1, h2⟩ := unpk_ow o e1
      have hl : vs.length = is.length := by
        rw [h2.len]
        have : ∀ {is : List Nat} {ds : List D} {ρ ρ2 : List S} (f : D → S), putAll ρ is (ds.map f) = some ρ2 → ds.length = is.length := by
          intro is
          induction is with
          | nil => intro ds ρ ρ2 f e; cases ds with
            | nil => rfl
            | cons _ _ => cases e
          | cons i is ih => intro ds ρ ρ2 f e; cases ds with
            | nil => cases e
            | cons d ds => exact congrArg (· + 1) (ih f e)
        exact this _ e
      exact ⟨a, vs, rfl, h1, hl, g_names eo h2 e k⟩
    · cases e
theorem g_bor {tg : Tg} {d : D} {Q : L2.St → Hp → Prop} (eo : EO K H β σ ρ F) (o : OW K H v d G) (hb : ∀ i ∈ tg.own, i < β.length → β[i]? = some true) (e : bind true tg d ρ = some ρ2)
    (k : ∀ σ2 F2, EO K H β σ2 ρ2 F2 → Sb F2 F → Bd σ σ2 tg.own → Q σ2 H) : gT K tg v σ H Q := by
  cases tg with
  | one i =>
    cases e
    obtain ⟨F1, h1, h2⟩ := eo.storeB' (i := i) (hb i List.mem_cons_self) o
    exact k _ _ h2 h1 (Bd.set (.refl _))
  | many is =>
    simp only [bind] at e
    split at e
    · rename_i ds e1
      obtain ⟨a, vs, rfl, h1, h2⟩ := unpk_ow o e1
      have hl : vs.length = is.length := by
        rw [h2.len]
        have : ∀ {is : List Nat} {ds : List D} {ρ ρ2 : List S} (f : D → S), putAll ρ is (ds.map f) = some ρ2 → ds.length = is.length := by
          intro is
          induction is with
          | nil => intro ds ρ ρ2 f e; cases ds with
            | nil => rfl
            | cons _ _ => cases e
          | cons i is ih => intro ds ρ ρ2 f e; cases ds with
            | nil => cases e
            | cons d ds => exact congrArg (· + 1) (ih f e)
        exact this _ e
      exact ⟨a, vs, rfl, h1, hl, g_namesB eo h2 hb e k⟩
    · cases e
theorem wipe_at {σ : L2.St} {j : Nat} : ∀ {vs : List Nat}, j ∈ vs → (wipe σ vs)[j]? = if j < σ.length then some none else none
  | [], h => by cases h
  | i :: vs, h => by
    unfold wipe
    by_cases e : j = i
    · subst e
      by_cases hl : j < σ.length
      · rw [List.getElem?_set_self (by rw [wipe_length]; exact hl), if_pos hl]
      · rw [List.getElem?_eq_none (by rw [List.length_set, wipe_length]; omega), if_neg hl]
    · rw [List.getElem?_set_ne (Ne.symm e)]
      exact wipe_at ((List.mem_cons.mp h).resolve_left e)
theorem wipe_not {σ : L2.St} {j : Nat} : ∀ {vs : List Nat}, j ∉ vs → (wipe σ vs)[j]? = σ[j]?
  | [], _ => rfl
  | i :: vs, h => by
    simp only [List.mem_cons, not_or] at h
    unfold wipe
    rw [List.getElem?_set_ne (Ne.symm h.1)]
    exact wipe_not h.2
theorem Bd.wipe {σ2 : L2.St} {is : List Nat} (h : Bd (L2.wipe σ is) σ2 is) : L2.wipe σ2 is = L2.wipe σ is := by
  refine List.ext_getElem? fun j => ?_
  have hl : σ2.length = σ.length := by rw [h.len, wipe_length]
  by_cases hj : j ∈ is
  · rw [wipe_at hj, wipe_at hj, hl]
  · rw [wipe_not hj, h.out j hj, wipe_not hj]
theorem less_wipe {is : List Nat} : Less (L2.wipe σ is) σ := fun i v h => (wipe_some h).1
/-- places that hold nothing may bear any value -/
theorem kill_no (ρ : List S) : ∀ {is : List Nat} {j : Nat}, j ∈ is → look (kill ρ is) j = .no
  | [], _, h => by cases h
  | i :: is, j, h => by
    show look (put (kill ρ is) i .no) j = .no
    by_cases e : j = i
    · subst e
      by_cases hl : j < (kill ρ is).length
      · exact look_put _ _ _ hl
      · exact look_over _ _ (by rw [put_len]; omega)
    · rw [look_put_ne _ _ e]
      exact kill_no ρ ((List.mem_cons.mp h).resolve_left e)
theorem put_no : ∀ {ρ : List S} {i : Nat}, look ρ i = .no → put ρ i .no = ρ
  | [], _, _ => rfl
  | s :: r, 0, h => by have h : s = .no := h; rw [h]; rfl
  | s :: r, i + 1, h => congrArg (s :: ·) (put_no (ρ := r) h)
theorem kill_idem {ρ : List S} : ∀ {is : List Nat}, (∀ j ∈ is, look ρ j = .no) → kill ρ is = ρ
  | [], _ => rfl
  | i :: is, h => by
    show put (kill ρ is) i .no = ρ
    rw [kill_idem fun j hj => h j (List.mem_cons_of_mem _ hj)]
    exact put_no (h i List.mem_cons_self)
/-- the lent names -/
def lend (β : List Bool) : List Nat → List Bool
  | [] => β
  | i :: is => (lend β is).set i true
theorem lend_len (β : List Bool) : ∀ is, (lend β is).length = β.length
  | [] => rfl
  | i :: is => by unfold lend; rw [List.length_set, lend_len]
theorem lend_at {β : List Bool} {j : Nat} : ∀ {is : List Nat}, j ∈ is → j < β.length → (lend β is)[j]? = some true
  | [], h, _ => by cases h
  | i :: is, h, hl => by
    unfold lend
    by_cases e : j = i
    · subst e
      rw [List.getElem?_set_self (by rw [lend_len]; exact hl)]
    · rw [List.getElem?_set_ne (Ne.symm e)]
      exact lend_at ((List.mem_cons.mp h).resolve_left e) hl
theorem lend_keep {β : List Bool} {j : Nat} : ∀ {is : List Nat}, β[j]? = some true → (lend β is)[j]? = some true
  | [], h => h
  | i :: is, h => by
    unfold lend
    by_cases e : j = i
    · subst e
      rw [List.getElem?_set_self (by rw [lend_len]; exact (List.getElem?_eq_some_iff.mp h).1)]
    · rw [List.getElem?_set_ne (Ne.symm e)]
      exact lend_keep h
theorem EO.up {is : List Nat} (h : EO K H β σ ρ F) : EO K H (lend β is) σ ρ F := h.re (lend_len _ _) fun i d e => lend_keep (h.bor_at e).choose_spec.choose_spec.2.2
end
end PF

set_option Elab.async false
set_option linter.all false
set_option maxRecDepth 100000
/-! PF14: comprehensions -/
namespace PF
open PySem PySem.Spec PyProof.Rows L2
def tT (Γ : List CT) (K : PySem.W.Frag) : List Ex → TT
  | [] => tYes
  | c :: _ => xT Γ K c
/-- where a comprehension begins -/
structure CB (K : PySem.W.Frag) (β : List Bool) (q : Bool) (σ : L2.St) (J : It) (w : Wk) (ρ1 : List S) (H1 : Hp) (F1 G1 : List Addr) (D : Addr) : Prop where
  nb : q = false → noB β
  eo : EO K H1 β σ ρ1 F1
  jw : JW K H1 σ J w G1
  nd : ND (F1 ++ G1)
  dn : H1 D = none
/-- how it stands at a turn; E: loose things -/
structure CI (K : PySem.W.Frag) (β : List Bool) (q : Bool) (σ : L2.St) (is : List Nat) (J : It) (w : Wk) (ρ1 : List S) (H1 : Hp) (F1 G1 : List Addr) (D : Addr) (H : Hp) (ρ : List S) (F : List Addr) (av : List V) (ads : List PF.D) (Ga E : List Addr) : Prop where
  eo : EO K H β (wipe σ is) ρ F
  no : ∀ j ∈ is, look ρ j = .no
  jw : JW K H σ J w G1
  acc : H D = some (.lst av)
  ow : OWs K H av ads Ga
  nd : ND ((F ++ (G1 ++ (D :: Ga))) ++ E)
  st : Step (q || w.isLent) H1 F1 H ((F ++ (D :: Ga)) ++ E)
  nq : (q || w.isLent) = true → ∀ a ∈ (D :: Ga) ++ E, H1 a = none
  le : (q || w.isLent) = true → Le (kill ρ1 is) ρ
section
variable {K : PySem.W.Frag} {H H1 H2 H' H4 : Hp} {β β' : List Bool} {σ σ' σ2 : L2.St} {ρ ρ' ρ1 ρ2 ρ5 : List S} {F F1 F2 F5 A G G1 G5 Ga E : List Addr} {q q' : Bool} {r : R} {v y : V} {Γ : List CT} {is : List Nat} {J : It} {w : Wk} {D : Addr} {av : List V} {ads : List PF.D} {x : PF.D}
theorem ct_cons (a b : Nat) (F : List Nat) : List.count (α := Nat) a (b :: F) = List.count a F + if b = a then 1 else 0 := by
  rw [List.count_cons]
  congr 1
  by_cases e : b = a <;> simp [e]
theorem MutF.one {a : Addr} {xs : List V} (h : H a = some (.lst xs)) : MutF H [a] := by
  intro b hb
  have e := List.mem_singleton.mp hb
  subst e
  exact ⟨.lst xs, h, trivial⟩
theorem CB.base (b : CB K β q σ J w ρ1 H1 F1 G1 D) (l : Le (kill ρ1 is) ρ) (f : Fr H1 H []) : ∃ F6, Sb F6 F1 ∧ EO K H β (wipe σ is) ρ F6 := by
  obtain ⟨F2, h1, h2⟩ := b.eo.kill is (σ' := wipe σ is) (wipe_length _ _) fun j hj => wipe_not hj
  obtain ⟨F3, h3, h4⟩ := h2.le l
  exact ⟨F3, h3.trans h1, h4.fr0 f⟩
theorem noD {D : Addr} {o : HO} (h : H D = some o) (s : ∀ a ∈ A, a ∈ F ∨ H a = none) (n : D ∉ F) : D ∉ A := fun z => by
  rcases s D z with z | z
  · exact n z
  · rw [h] at z; cases z
theorem CI.start (b : CB K β q σ J w ρ1 H1 F1 G1 D) : ∃ F, CI K β q σ is J w ρ1 H1 F1 G1 D (upd H1 D (.lst [])) (kill ρ1 is) F [] [] [] [] := by
  obtain ⟨F2, h1, h2⟩ := b.eo.kill is (σ' := wipe σ is) (wipe_length _ _) fun j hj => wipe_not hj
  have f : Fr H1 (upd H1 D (.lst [])) [] := Fr.new b.dn
  refine ⟨F2, h2.fr0 f, fun j hj => kill_no _ hj, b.jw.fr f .nil (fun _ _ z => nomatch z) fun _ => rfl, upd_same, .nil, fun a => ?_, ⟨fun a ha => ?_, fun a o e n => f a o e fun z => nomatch z⟩, fun _ a ha => ?_, fun _ => .refl _⟩
  · have c1 := b.nd a
    have c2 := h1 a
    simp only [ct_app, ct_cons, List.count_nil] at c1 ⊢
    split
    · rename_i e
      subst e
      have z1 : List.count (α := Nat) D F1 = 0 := List.count_eq_zero.mpr (b.eo.mt.ne b.dn)
      have z2 : List.count (α := Nat) D G1 = 0 := List.count_eq_zero.mpr (b.jw.mt.ne b.dn)
      omega
    · omega
  · simp only [List.append_nil, List.mem_append, List.mem_singleton] at ha
    rcases ha with ha | rfl
    · exact .inl (h1.mem ha)
    · exact .inr b.dn
  · simp only [List.append_nil, List.mem_singleton] at ha
    subst ha
    exact b.dn
theorem CI.next (b : CB K β q σ J w ρ1 H1 F1 G1 D) (c : CI K β q σ is J w ρ1 H1 F1 G1 D H ρ F av ads Ga []) (f : Fr H H' []) (s2 : ∀ a ∈ F2, a ∈ F ∨ H a = none)
    (hβ : w.isLent = false → β' = β) (eo : EO K H4 β' σ2 ρ5 F5) (bd : Bd (wipe σ is) σ2 is) (nd : ND (F5 ++ G5)) (st : Step (q || w.isLent) H' F2 H4 (F5 ++ G5)) (nq : (q || w.isLent) = true → ∀ a ∈ G5, H' a = none)
    (le : (q || w.isLent) = true → Le ρ (kill ρ5 is)) : ∃ F6, CI K β q σ is J w ρ1 H1 F1 G1 D H4 (kill ρ5 is) F6 av ads Ga G5 := by
  have nd0 : ND (F ++ (G1 ++ (D :: Ga))) := by have := c.nd; rwa [List.append_nil] at this
  have st0 : Step (q || w.isLent) H1 F1 H (F ++ (D :: Ga)) := by have := c.st; rwa [List.append_nil] at this
  have nq0 : (q || w.isLent) = true → ∀ a ∈ D :: Ga, H1 a = none := fun e a ha => c.nq e a (List.mem_append_left _ ha)
  -- what changes is new, or of the places
  have s4 : ∀ a ∈ F5 ++ G5, a ∈ F ∨ H a = none := fun a ha => by
    rcases st.nw a ha with z | z
    · exact s2 a z
    · exact .inr (f.oldNone z)
  have m : MutF H (G1 ++ (D :: Ga)) := c.jw.mt.app fun a ha => by
    rcases List.mem_cons.mp ha with rfl | ha
    · exact ⟨_, c.acc, trivial⟩
    · exact c.ow.mt a ha
  have far : ∀ a ∈ G1 ++ (D :: Ga), a ∉ FF (q || w.isLent) F2 := fun a ha z => by
    rcases s2 a (FF.sub z) with z | z
    · exact nd0.apart z ha
    · exact m.ne z ha
  have f4 : Fr H H4 (FF (q || w.isLent) F2) := fun a o e n => st.fr a o (f a o e fun z => nomatch z) n
  have mF : MutF H (FF (q || w.isLent) F2 |>.filter fun a => (H a).isSome) := fun a ha => by
    have h1 := (List.mem_filter.mp ha).1
    have h2 := (List.mem_filter.mp ha).2
    rcases s2 a (FF.sub h1) with z | z
    · exact c.eo.mt a z
    · rw [z] at h2; cases h2
  have f5 : Fr H H4 (FF (q || w.isLent) F2 |>.filter fun a => (H a).isSome) := fun a o e n => f4 a o e fun z => n (List.mem_filter.mpr ⟨z, by rw [e]; rfl⟩)
  have far5 : ∀ a ∈ G1 ++ (D :: Ga), a ∉ (FF (q || w.isLent) F2 |>.filter fun a => (H a).isSome) := fun a ha z => far a ha (List.mem_filter.mp z).1
  have fr14 : Fr H1 H4 (FF (q || w.isLent) F1) := fun a o e n => by
    refine f4 a o (st0.fr a o e n) fun z => ?_
    cases hq : (q || w.isLent) with
    | true => rw [hq] at z; cases z
    | false =>
      rw [hq] at n z
      have z' : a ∈ F2 := z
      have n' : a ∉ F1 := n
      rcases s2 a z' with w1 | w1
      · rcases st0.nw a (List.mem_append_left _ w1) with w2 | w2
        · exact n' w2
        · rw [w2] at e; cases e
      · have := st0.fr a o e (by rw [hq]; exact n)
        rw [this] at w1; cases w1
  have hacc : H4 D = some (.lst av) := f4 D _ c.acc (far D (List.mem_append_right _ List.mem_cons_self))
  have how : OWs K H4 av ads Ga := c.ow.fr f5 mF fun a ha => far5 a (List.mem_append_right _ (List.mem_cons_of_mem _ ha))
  cases hq : (q || w.isLent) with
  | false =>
    have hl : w.isLent = false := by
      cases h : w.isLent with
      | false => rfl
      | true => rw [h, Bool.or_true] at hq; cases hq
    have e := hβ hl
    subst e
    obtain ⟨F6, h1, h2⟩ := eo.kill is (σ' := wipe σ is) (by rw [bd.len]) fun j hj => (bd.out j hj).symm
    refine ⟨F6, h2, fun j hj => kill_no _ hj, c.jw.fr f5 mF (fun a ha => far5 a (List.mem_append_left _ ha)) (fun z => by rw [hl] at z; cases z), hacc, how, ?_, ?_, (fun z => by rw [hq] at z; cases z), fun z => by rw [hq] at z; cases z⟩
    · refine (nd0.keep m nd s4).perm fun a => ?_
      have := h1 a
      simp only [ct_app] at *
      omega
    · refine ⟨fun a ha => ?_, fr14⟩
      have : a ∈ F5 ++ G5 ∨ a ∈ D :: Ga := by
        rcases List.mem_append.mp ha with ha | ha
        · rcases List.mem_append.mp ha with ha | ha
          · exact .inl (List.mem_append_left _ (h1.mem ha))
          · exact .inr ha
        · exact .inl (List.mem_append_right _ ha)
      rcases this with ha | ha
      · rcases s4 a ha with z | z
        · exact st0.nw a (List.mem_append_left _ z)
        · exact st0.newer z
      · exact st0.nw a (List.mem_append_right _ ha)
  | true =>
    have f0 : Fr H1 H4 [] := by rw [hq] at fr14; exact fr14
    have f1 : Fr H1 H [] := by have := st0.fr; rw [hq] at this; exact this
    obtain ⟨F6, h1, h2⟩ := b.base ((c.le hq).trans (le hq)) f0
    have nG : ∀ a ∈ G5, H a = none := fun a ha => f.oldNone (nq hq a ha)
    have nq1 : ∀ a ∈ (D :: Ga) ++ G5, H1 a = none := fun a ha => by
      rcases List.mem_append.mp ha with ha | ha
      · exact nq0 hq a ha
      · exact f1.oldNone (nG a ha)
    have ndX : ND (G5 ++ (D :: Ga)) := by
      refine ND.keep (F1 := []) (H1 := H) (by have := nd0.right.right; simpa using this) (fun a ha => m a (List.mem_append_right _ ha)) nd.right fun a ha => .inr (nG a ha)
    have ndY : ND ((G5 ++ (D :: Ga)) ++ (F1 ++ G1)) := by
      refine ND.keep (F1 := []) (H1 := H1) (by have := b.nd; simpa using this) (b.eo.mt.app b.jw.mt) ndX fun a ha => .inr (nq1 a ?_)
      rcases List.mem_append.mp ha with ha | ha
      · exact List.mem_append_right _ ha
      · exact List.mem_append_left _ ha
    refine ⟨F6, h2, fun j hj => kill_no _ hj, b.jw.fr f0 .nil (fun _ _ z => nomatch z) (fun _ => rfl), hacc, how, ?_, ⟨fun a ha => ?_, fr14⟩, fun _ => nq1, fun _ => (c.le hq).trans (le hq)⟩
    · refine ndY.perm fun a => ?_
      have := h1 a
      simp only [ct_app] at *
      omega
    · have : a ∈ F6 ∨ a ∈ (D :: Ga) ++ G5 := by
        rcases List.mem_append.mp ha with ha | ha
        · rcases List.mem_append.mp ha with ha | ha
          · exact .inl ha
          · exact .inr (List.mem_append_left _ ha)
        · exact .inr (List.mem_append_right _ ha)
      rcases this with ha | ha
      · exact .inl (h1.mem ha)
      · exact .inr (nq1 a ha)
theorem CI.app (b : CB K β q σ J w ρ1 H1 F1 G1 D) (c : CI K β q σ is J w ρ1 H1 F1 G1 D H ρ F av ads Ga E) (o : OW K H y x E) :
    ∃ F6, CI K β q σ is J w ρ1 H1 F1 G1 D (upd H D (.lst (av ++ [y]))) ρ F6 (av ++ [y]) (ads ++ [x]) (Ga ++ E) [] := by
  have f : Fr H (upd H D (.lst (av ++ [y]))) [D] := fun a o' e n => by
    rw [upd_ne (fun z => n (by rw [z]; exact List.mem_singleton.mpr rfl))]
    exact e
  have mD : MutF H [D] := MutF.one c.acc
  have cD := c.nd D
  simp only [ct_app, ct_cons, if_pos] at cD
  have dz : ∀ {A : List Addr}, List.count (α := Nat) D A = 0 → ∀ a ∈ A, a ∉ [D] := fun {A} h a ha z => by
    rw [List.mem_singleton.mp z] at ha
    exact absurd ha (List.count_eq_zero.mp h)
  have zF : List.count (α := Nat) D F = 0 := by omega
  have zG : List.count (α := Nat) D G1 = 0 := by omega
  have zA : List.count (α := Nat) D Ga = 0 := by omega
  have zE : List.count (α := Nat) D E = 0 := by omega
  have how : OWs K (upd H D (.lst (av ++ [y]))) (av ++ [y]) (ads ++ [x]) (Ga ++ E) := by
    have h1 := c.ow.fr f mD (dz zA)
    have h2 : OWs K (upd H D (.lst (av ++ [y]))) [y] [x] (E ++ []) := .cons (o.fr f mD (dz zE)) .nil
    rw [List.append_nil] at h2
    exact h1.app h2
  have fr1 : Fr H1 (upd H D (.lst (av ++ [y]))) (FF (q || w.isLent) F1) := fun a o' e n => f a o' (c.st.fr a o' e n) fun z => by
    rw [List.mem_singleton.mp z, b.dn] at e; cases e
  have nd' : ∀ {F6 : List Addr}, Sb F6 F → ND ((F6 ++ (G1 ++ (D :: (Ga ++ E)))) ++ []) := fun {F6} s => c.nd.perm fun a => by
    have := s a
    simp only [ct_app, ct_cons, List.count_nil] at *
    omega
  have st' : ∀ {F6 : List Addr}, (∀ a ∈ F6, a ∈ F1 ∨ H1 a = none) → Step (q || w.isLent) H1 F1 (upd H D (.lst (av ++ [y]))) ((F6 ++ (D :: (Ga ++ E))) ++ []) := fun {F6} s => ⟨fun a ha => by
    rw [List.append_nil] at ha
    rcases List.mem_append.mp ha with ha | ha
    · exact s a ha
    · refine c.st.nw a ?_
      simp only [List.mem_append, List.mem_cons] at ha ⊢
      rcases ha with ha | ha | ha
      · exact .inl (.inr (.inl ha))
      · exact .inl (.inr (.inr ha))
      · exact .inr ha, fr1⟩
  have nq' : (q || w.isLent) = true → ∀ a ∈ (D :: (Ga ++ E)) ++ [], H1 a = none := fun e a ha => c.nq e a (by
    simp only [List.append_nil, List.mem_append, List.mem_cons] at ha ⊢
    rcases ha with ha | ha | ha
    · exact .inl (.inl ha)
    · exact .inl (.inr ha)
    · exact .inr ha)
  cases hq : (q || w.isLent) with
  | false =>
    have hl : w.isLent = false := by
      cases h : w.isLent with
      | false => rfl
      | true => rw [h, Bool.or_true] at hq; cases hq
    have hq' : q = false := by
      cases h : q with
      | false => rfl
      | true => rw [h] at hq; cases hq
    exact ⟨F, c.eo.fr f mD (b.nb hq') (dz zF), c.no, c.jw.fr f mD (dz zG) (fun z => by rw [hl] at z; cases z), upd_same, how, nd' (Sb.refl _), st' fun a ha => c.st.nw a (List.mem_append_left _ (List.mem_append_left _ ha)), nq', c.le⟩
  | true =>
    have f0 : Fr H1 (upd H D (.lst (av ++ [y]))) [] := by rw [hq] at fr1; exact fr1
    obtain ⟨F6, h1, h2⟩ := b.base (c.le hq) f0
    have f1 : Fr H1 H [] := by have := c.st.fr; rw [hq] at this; exact this
    have nq1 := nq' hq
    rw [List.append_nil] at nq1
    refine ⟨F6, h2, c.no, b.jw.fr f0 .nil (fun _ _ z => nomatch z) (fun _ => rfl), upd_same, how, ?_, st' fun a ha => .inl (h1.mem ha), nq', c.le⟩
    have ndX : ND (D :: (Ga ++ E)) := c.nd.perm fun a => by simp only [ct_app, ct_cons]; omega
    have ndY : ND ((D :: (Ga ++ E)) ++ (F1 ++ G1)) := ND.keep (F1 := []) (H1 := H1) (by have := b.nd; simpa using this) (b.eo.mt.app b.jw.mt) ndX fun a ha => .inr (nq1 a ha)
    refine ndY.perm fun a => ?_
    have := h1 a
    simp only [ct_app, ct_cons, List.count_nil] at *
    omega
end
end PF

set_option Elab.async false
set_option linter.all false
set_option maxRecDepth 100000
/-! PF15: comprehensions, the whole -/
namespace PF
open PySem PySem.Spec PyProof.Rows L2
section
variable {K : PySem.W.Frag} {H H1 H2 H' H4 : Hp} {β β' : List Bool} {σ σ' σ2 : L2.St} {ρ ρ' ρ1 ρ2 ρ3 ρ5 : List S} {F F1 F2 F5 A G G1 G5 Ga E : List Addr} {q q' : Bool} {r : R} {v y : V} {Γ : List CT} {is : List Nat} {J : It} {w : Wk} {D : Addr} {av : List V} {ads : List PF.D} {x : PF.D}
theorem putAll_out : ∀ {is : List Nat} {ds : List S} {ρ ρ2 : List S}, putAll ρ is ds = some ρ2 → ρ2.length = ρ.length ∧ ∀ j, j ∉ is → look ρ2 j = look ρ j
  | [], [], _, _, e => by cases e; exact ⟨rfl, fun _ _ => rfl⟩
  | [], _ :: _, _, _, e => by cases e
  | _ :: _, [], _, _, e => by cases e
  | i :: is, d :: ds, ρ, ρ2, e => by
    obtain ⟨h1, h2⟩ := putAll_out (is := is) (ds := ds) (ρ := put ρ i d) e
    refine ⟨by rw [h1, put_len], fun j hj => ?_⟩
    simp only [List.mem_cons, not_or] at hj
    rw [h2 j hj.2, look_put_ne _ _ hj.1]
theorem bind_out {b : Bool} {tg : Tg} {d : PF.D} (e : PF.bind b tg d ρ = some ρ2) : ρ2.length = ρ.length ∧ ∀ j, j ∉ tg.own → look ρ2 j = look ρ j := by
  cases tg with
  | one i =>
    cases e
    exact ⟨put_len _ _ _, fun j hj => look_put_ne _ _ (by simpa [Tg.own] using hj)⟩
  | many is =>
    simp only [PF.bind] at e
    split at e
    · exact putAll_out e
    · cases e
theorem le_turn {b : Bool} {tg : Tg} {d : PF.D} (e : PF.bind b tg d ρ = some ρ2) (l : Le ρ2 ρ5) : Le ρ (kill ρ5 tg.own) := by
  obtain ⟨h1, h2⟩ := bind_out e
  refine ⟨by rw [kill_len, l.len, h1], fun j => ?_⟩
  by_cases hj : j ∈ tg.own
  · exact .inr (kill_no _ hj)
  · rw [look_kill _ hj, ← h2 j hj]
    exact l.at_ j
theorem tT_of {conds : List Ex} {b : Bool} {Q : Bool → Hp → Prop} (p : Pre K β q σ ρ H F) (e : evT Γ q conds ρ = some (b, ρ3)) (k : ∀ H3 F3, PstT K β q σ ρ H F ρ3 H3 F3 → Q b H3) : tT Γ K conds σ H Q := by
  cases conds with
  | nil =>
    cases e
    exact k H F ⟨p.eo, p.nd, .refl, fun _ => .refl _⟩
  | cons c t =>
    cases t with
    | cons _ _ => cases e
    | nil =>
      simp only [evT] at e
      split at e
      · rename_i r ρ1 e1
        split at e
        · rename_i kk e2
          cases e
          exact ⟨β, q, ρ, F, r, ρ3, b, p, e1, e2, fun H3 F3 h3 => k H3 F3 h3⟩
        · cases e
      · cases e
theorem x_comp {elt : Ex} {tg : Tg} {kind : Nat} {src conds : List Ex} {Q : VK} (h : xE Γ K (.comp elt tg kind src conds) σ H Q) :
    tLc (xI Γ K kind src) (gT K tg) (tT Γ K conds) (xE Γ K elt) tg.own σ H Q := by
  obtain ⟨β, q, ρ, F, x0, ρ', p, e, kk⟩ := h
  simp only [ev] at e
  split at e
  · rename_i rs ρ1 e1
    split at e
    · rename_i w ek
      split at e
      · rename_i hlen
        generalize hf : (fun (d : PF.D) (a : List PF.D × List S) => _ : PF.D → List PF.D × List S → Option (List PF.D × List S)) = f at e
        split at e
        · rename_i adsf ρ2 e3
          cases e
          refine x_src p e1 ek fun J H1 F1 G1 h1 => ?_
          intro D hD
          have b : CB K β q σ J w ρ1 H1 F1 G1 D := ⟨p.nb, h1.eo, h1.jw, h1.nd, hD⟩
          refine ⟨fun i m H => m = w.len - i ∧ i ≤ w.len ∧ ∃ ρi F av ads Ga, CI K β q σ tg.own J w ρ1 H1 F1 G1 D H ρi F av ads Ga [] ∧ ads.length ≤ i ∧ walkN Prod.snd w f (w.len - i) (ads, ρi) = some (adsf, ρ'), ⟨w.len, ?_⟩, ?_⟩
          · obtain ⟨F0, c⟩ := CI.start (is := tg.own) b
            exact ⟨rfl, Nat.zero_le _, _, F0, [], [], [], c, Nat.le_refl _, e3⟩
          rintro i m H2 ⟨rfl, hi, ρi, F2, av, ads, Ga, c, hal, hw⟩
          by_cases hlt : i < w.len
          · refine .inr ?_
            obtain ⟨kn, hk⟩ : ∃ kn, w.len - i = kn + 1 := ⟨w.len - i - 1, by omega⟩
            rw [hk] at hw
            simp only [walkN] at hw
            have hix : w.len - (kn + 1) = i := by omega
            rw [hix] at hw
            split at hw
            · rename_i d ed
              obtain ⟨hgo, hyld⟩ := c.jw.turn c.eo less_wipe ed
              refine ⟨hgo, fun H' => _, fun H' hn => ⟨_, (by omega : w.len - (i + 1) < w.len - i), hn⟩, fun x H3 hy => ?_⟩
              obtain ⟨y1, y2⟩ := hyld x H3 hy
              split at hw
              · rename_i a2 ea
                rw [← hf] at ea
                simp only [kill_idem c.no] at ea
                split at ea
                · rename_i ρb eb
                  have nd0 : ND (F2 ++ (G1 ++ (D :: Ga))) := by have := c.nd; rwa [List.append_nil] at this
                  -- what follows the target
                  have rest : ∀ β' σ2 Fb, (w.isLent = false → β' = β) → ((q || w.isLent) = false → noB β') → EO K H3 β' σ2 ρb Fb → ND Fb → Fr H2 H3 [] → (∀ a ∈ Fb, a ∈ F2 ∨ H2 a = none) → Bd (wipe σ tg.own) σ2 tg.own →
                      wipe σ2 tg.own = wipe σ tg.own ∧ tT Γ K conds σ2 H3 fun bb H4 => if bb = true then xE Γ K elt σ2 H4 fun y H5 => ∃ acc, H5 D = some (.lst acc) ∧ acc.length < sizeLine ∧
                        (w.len - (i + 1) = w.len - (i + 1) ∧ i + 1 ≤ w.len ∧ ∃ ρi F av ads Ga, CI K β q σ tg.own J w ρ1 H1 F1 G1 D (upd H5 D (.lst (acc ++ [y]))) ρi F av ads Ga [] ∧ ads.length ≤ i + 1 ∧ walkN Prod.snd w f (w.len - (i + 1)) (ads, ρi) = some (adsf, ρ'))
                        else (w.len - (i + 1) = w.len - (i + 1) ∧ i + 1 ≤ w.len ∧ ∃ ρi F av ads Ga, CI K β q σ tg.own J w ρ1 H1 F1 G1 D H4 ρi F av ads Ga [] ∧ ads.length ≤ i + 1 ∧ walkN Prod.snd w f (w.len - (i + 1)) (ads, ρi) = some (adsf, ρ')) := by
                    intro β' σ2 Fb hβ nb' eob ndb f3 sb bd
                    refine ⟨bd.wipe, ?_⟩
                    split at ea
                    · rename_i ρc et
                      split at ea
                      · rename_i r ρ4 ee
                        split at ea
                        · rename_i xx ρ5 eo5
                          cases ea
                          refine tT_of ⟨nb', eob, ndb⟩ et fun H4 F4 h4 => ite_tt ?_
                          refine ⟨β', q || w.isLent, ρc, F4, r, ρ4, h4.pre nb', ee, fun y H5 F5 G5 h5 => ?_⟩
                          obtain ⟨F6, G6, eo6, ow6, nd6, st6, nq6, le6⟩ := (h4.then_ h5).own eo5
                          obtain ⟨F7, c7⟩ := c.next b f3 sb hβ eo6 bd nd6 st6 nq6 fun e => le_turn eb (le6 e)
                          obtain ⟨F8, c8⟩ := c7.app b ow6
                          refine ⟨av, c7.acc, ?_, rfl, hlt, _, F8, _, _, _, c8, by rw [List.length_append]; simp only [List.length_singleton]; omega, ?_⟩
                          · rw [c7.ow.len, ← LIM_line]; omega
                          · have : w.len - (i + 1) = kn := by omega
                            rw [this]; exact hw
                        · cases ea
                      · cases ea
                    · rename_i ρc et
                      cases ea
                      refine tT_of ⟨nb', eob, ndb⟩ et fun H4 F4 h4 => ite_ff ?_
                      obtain ⟨F7, c7⟩ := c.next (G5 := []) b f3 sb hβ h4.eo bd (by rw [List.append_nil]; exact h4.nd) (by rw [List.append_nil]; exact h4.st) (fun _ _ z => nomatch z) fun e => le_turn eb (h4.le e)
                      refine ⟨rfl, hlt, _, F7, _, _, _, c7, by omega, ?_⟩
                      have : w.len - (i + 1) = kn := by omega
                      rw [this]; exact hw
                    · cases ea
                  cases hl : w.isLent with
                  | false =>
                    obtain ⟨Gx, ox, ndx, nwx, fx⟩ := y1 hl
                    rw [hl] at eb
                    refine g_val (c.eo.fr0 fx) ox eb fun σ2 Fb eob sb bd => rest β σ2 Fb (fun _ => rfl) (fun e => p.nb (or_false e)) eob ?_ fx (fun a ha => ?_) bd
                    · refine ND.sb (fun a => ?_) sb
                      have c1 := nd0.left a
                      have c2 := ndx a
                      rw [ct_app]
                      by_cases hg : a ∈ Gx
                      · have : List.count (α := Nat) a F2 = 0 := List.count_eq_zero.mpr (c.eo.mt.ne (nwx a hg))
                        omega
                      · have : List.count (α := Nat) a Gx = 0 := List.count_eq_zero.mpr hg
                        omega
                    · rcases List.mem_append.mp (sb.mem ha) with z | z
                      · exact .inl z
                      · exact .inr (nwx a z)
                  | true =>
                    obtain ⟨eh, Gx, ox⟩ := y2 hl
                    subst eh
                    rw [hl] at eb
                    refine g_bor (c.eo.up (is := tg.own)) ox (fun j hj hjl => lend_at hj (by rw [lend_len] at hjl; exact hjl)) eb fun σ2 Fb eob sb bd => rest _ σ2 Fb (fun z => by rw [hl] at z; cases z) (fun z => by rw [hl, Bool.or_true] at z; cases z) eob (nd0.left.sb sb) (Fr.refl _ _) (fun a ha => .inl (sb.mem ha)) bd
                · cases ea
              · cases hw
            · cases hw
          · refine .inl ?_
            have hi' : i = w.len := by omega
            subst hi'
            rw [Nat.sub_self] at hw
            simp only [walkN] at hw
            split at hw
            · rename_i hok
              cases hw
              refine ⟨c.jw.stop c.eo less_wipe hok, ?_⟩
              obtain ⟨F3, s3, eo3⟩ := c.eo.kill tg.own (σ' := σ) (wipe_length _ _).symm fun j hj => (wipe_not hj).symm
              rw [kill_idem c.no] at eo3
              have hnd := c.nd
              have hst := c.st
              have hnq := c.nq
              refine kk _ _ F3 (D :: Ga) ⟨eo3, .rv (.l c.acc c.ow), hnd.perm fun a => ?_, (h1.st.trans (fun a ha => List.mem_append_left _ ha) hst fun e => by rw [e]; rfl).sub fun a ha => ?_, fun e a ha => ?_, fun e => ((h1.le e).trans (Le.kill _ _)).trans (c.le (by rw [e]; rfl))⟩
              · have := s3 a
                simp only [ct_app, ct_cons, List.count_nil] at *
                omega
              · simp only [List.append_nil, List.mem_append] at ha ⊢
                rcases ha with ha | ha
                · exact .inr (.inl (s3.mem ha))
                · exact .inr (.inr ha)
              · have := hnq (by rw [e]; rfl) a (by rw [List.append_nil]; exact ha)
                subst e
                exact h1.st.q0.oldNone this
            · cases hw
        · cases e
      · cases e
    · cases e
  · cases e
end
end PF

set_option Elab.async false
set_option linter.all false
set_option maxRecDepth 100000
/-! PF16: index and count; the operators by name -/
namespace PF
open PySem PySem.Spec PyProof.Rows L2
section
variable {X : Cx}
def rMth (K : PySem.W.Frag) (o : Op) (T : String) : V → List V → Hp → VK → Prop := fun x xs H Q => ∃ y d k z, xs = [y] ∧ tyD T d ∧ Rd K H x d ∧ Rd K H y k ∧ opD o [d, k] = some z ∧ Meet K H z Q
theorem idxT_py (t : T) : ∀ ts : List T, idxT t ts = PySem.SeqAt.dataPlace (toPys ts) (toPy t)
  | [] => rfl
  | x :: r => by
    have ih := idxT_py t r
    unfold idxT
    simp only [PySem.SeqAt.dataPlace, toPys, List.findIdx?_cons] at ih ⊢
    rw [eqT_py, ih]
theorem cntT_py (t : T) : ∀ ts : List T, (ts.countP fun z => eqT z t) = (toPys ts).countP fun z => PyData.eqv z (toPy t)
  | [] => rfl
  | x :: r => by
    have ih := cntT_py t r
    simp only [toPys, List.countP_cons]
    rw [ih, eqT_py]
/-- the sequence as the library's data -/
theorem seq_reads {pins : List (Addr × Obj)} {s : Shared} {σ : L2.St} {H : Hp} {x : V} {v : Value} {T' : String} {d : D} {ts : List T} (I : Inv X pins σ H s) (rx : RelV x v) (hT : tyD T' d) (h : Rd X.K H x d) (e : seqT d = some ts) :
    ∃ a its as, v = .ref a ∧ its.length ≤ sizeLine ∧ ReadsAll s.heap its (toPys ts) as ∧ ((T' = "list" ∧ s.heap.IsList a its.toArray) ∨ (T' = "tuple" ∧ s.heap.IsTuple a its.toArray)) := by
  rcases hT with ⟨rfl, hn⟩ | ⟨rfl, us, rfl⟩
  · have e2 : items d = some ts := by
      unfold seqT at e
      split at e
      · exact absurd rfl (hn _)
      · exact e
    obtain ⟨a, vs, rfl, hs, r⟩ := h.items e2
    cases rx
    obtain ⟨its, rv, p, hz⟩ := I.list hs
    obtain ⟨as, h4⟩ := Dp.readsAll I (toPys ts) _ its r.dp rv
    exact ⟨a, its, as, rfl, by rw [← rv.length]; exact hz, h4, .inl ⟨rfl, p.isList⟩⟩
  · cases e
    obtain ⟨a, vs, rfl, hs, r⟩ := h.tup
    cases rx
    obtain ⟨its, rv, p, hz⟩ := I.tuple hs
    obtain ⟨as, h4⟩ := Dp.readsAll I (toPys ts) _ its r.dp rv
    exact ⟨a, its, as, rfl, by rw [← rv.length]; exact hz, h4, .inr ⟨rfl, p⟩⟩
theorem room31 {t : T} (hu : X.A.units + 65 < cLine) (h : okT 31 t = true) (n : Nat) : X.A.units + 1 + min n (toPy t).depth < cLine := by
  have := depth_py 31 t h
  omega
theorem mt_index {T' : String} {id : String} (hT : (T' = "list" ∧ id = "list.index") ∨ (T' = "tuple" ∧ id = "tuple.index")) (hu : X.A.units + 65 < cLine) : MtR X id (rMth X.K .index T') := by
  intro pins s σ H x xs v us Q I rx rxs ⟨y, d, k, z, ex, ht, hx, hy, e, q⟩
  subst ex
  obtain ⟨u, rfl, ry⟩ := vals1 rxs
  change indexD [d, k] = some z at e
  unfold indexD at e
  split at e
  · rename_i d' t heq
    cases heq
    split at e
    · rename_i ts e1
      split at e
      · rename_i ok
        cases e2 : idxT t ts with
        | none => rw [e2] at e; cases e
        | some j =>
          rw [e2] at e
          cases e
          rw [idxT_py] at e2
          obtain ⟨a, its, as, rfl, hz, rs, hk⟩ := seq_reads I rx ht hx e1
          obtain ⟨bs, rt⟩ := Dp.reads I (toPy t) y u hy.rt.dp ry
          have rs' : ReadsAll s.heap its.toArray.toList (toPys ts) as := rs
          obtain ⟨hj, hit, hno⟩ := PySem.SeqAt.hit_at (d := toPy t) rs' (plains_py ts) e2
          have items := SeqAt.items_plain (A := X.A) rs' rt (plains_py ts) (plain_py t) (room31 hu ok _)
          have fin : EP X pins σ Q (.int (j : Nat) s.toks) { s with toks := s.toks + 1 } := ⟨.int (j : Nat), H, I.tok _, ⟨_, rfl⟩, q _ _ (.int _)⟩
          have hjz : j < 16777216 := by
            have := sizeLine_eq
            simp only [List.size_toArray] at hj
            omega
          rcases hk with ⟨rfl, hl⟩ | ⟨rfl, hl⟩
          · have hl' := hl
            obtain ⟨⟨cls, dd, data, sls⟩, ho, hc, n, hd⟩ := hl'
            simp only at hc hd
            subst hc hd
            rcases hT with ⟨_, rfl⟩ | ⟨h, _⟩
            · exact call_meets PySem.F.slot_list_index ⟨_, ho, rfl⟩ PySem.F.entry_list_index (PySem.F.args_list_index_2 _ _) (SeqAt.list_indexAt a its.toArray n dd sls u (fun w => PyData.eqv (SeqAt.readOf s.heap w) (toPy t)) j hj (by omega) hit hno) ⟨ho, items, fin⟩
            · exact absurd h (by decide)
          · have hl' := hl
            obtain ⟨⟨cls, dd, data, sls⟩, ho, hc, n, hd⟩ := hl'
            simp only at hc hd
            subst hc hd
            rcases hT with ⟨h, _⟩ | ⟨_, rfl⟩
            · exact absurd h (by decide)
            · exact call_meets PySem.F.slot_tuple_index ⟨_, ho, rfl⟩ PySem.F.entry_tuple_index (PySem.F.args_tuple_index_2 _ _) (TI.tuple_indexAt a its.toArray n dd sls u (fun w => PyData.eqv (SeqAt.readOf s.heap w) (toPy t)) j hj hit hno) ⟨ho, items, fin⟩
      · cases e
    · cases e
  · cases e
theorem mt_count {T' : String} {id : String} (hT : (T' = "list" ∧ id = "list.count") ∨ (T' = "tuple" ∧ id = "tuple.count")) (hu : X.A.units + 65 < cLine) : MtR X id (rMth X.K .count T') := by
  intro pins s σ H x xs v us Q I rx rxs ⟨y, d, k, z, ex, ht, hx, hy, e, q⟩
  subst ex
  obtain ⟨u, rfl, ry⟩ := vals1 rxs
  change countD [d, k] = some z at e
  unfold countD at e
  split at e
  · rename_i d' t heq
    cases heq
    split at e
    · rename_i ts e1
      split at e
      · rename_i ok
        cases e
        obtain ⟨a, its, as, rfl, hz, rs, hk⟩ := seq_reads I rx ht hx e1
        obtain ⟨bs, rt⟩ := Dp.reads I (toPy t) y u hy.rt.dp ry
        have rs' : ReadsAll s.heap its.toArray.toList (toPys ts) as := rs
        have fin : EP X pins σ Q (.int (((toPys ts).countP fun z => PyData.eqv z (toPy t) : Nat) : Int) s.toks) { s with toks := s.toks + 1 } := ⟨.int _, H, I.tok _, ⟨_, rfl⟩, by rw [← cntT_py]; exact q _ _ (.int _)⟩
        rcases hk with ⟨rfl, hl⟩ | ⟨rfl, hl⟩
        · rcases hT with ⟨_, rfl⟩ | ⟨h, _⟩
          · exact SeqAt.count_list_data hl rs' rt (plains_py ts) (plain_py t) (room31 hu ok _) fin
          · exact absurd h (by decide)
        · rcases hT with ⟨h, _⟩ | ⟨_, rfl⟩
          · exact absurd h (by decide)
          · exact SeqAt.count_tuple_data hl rs' rt (plains_py ts) (plain_py t) (room31 hu ok _) fin
      · cases e
    · cases e
  · cases e
theorem mf_index (hu : X.A.units + 65 < cLine) : MtF X "index" (rMth X.K .index) := ⟨fun T' h => by
  rcases h with rfl | rfl
  · exact ⟨"list.index", PySem.F.plainAttrs_list, PySem.F.slot_list_index, PySem.F.type_list_index, mt_index (.inl ⟨rfl, rfl⟩) hu⟩
  · exact ⟨"tuple.index", PySem.F.plainAttrs_tuple, PySem.F.slot_tuple_index, PySem.F.type_tuple_index, mt_index (.inr ⟨rfl, rfl⟩) hu⟩⟩
theorem mf_count (hu : X.A.units + 65 < cLine) : MtF X "count" (rMth X.K .count) := ⟨fun T' h => by
  rcases h with rfl | rfl
  · exact ⟨"list.count", PySem.F.plainAttrs_list, PySem.F.slot_list_count, PySem.F.type_list_count, mt_count (.inl ⟨rfl, rfl⟩) hu⟩
  · exact ⟨"tuple.count", PySem.F.plainAttrs_tuple, PySem.F.slot_tuple_count, PySem.F.type_tuple_count, mt_count (.inr ⟨rfl, rfl⟩) hu⟩⟩

/-! ### the operators -/
/-- a two-place operation answers as o says -/
def O2 (X : Cx) (f : Value → Value → Sem Value) (o : Op) : Prop := OpR X f fun x y H Q => ∃ d e z, Rd X.K H x d ∧ Rd X.K H y e ∧ opD o [d, e] = some z ∧ Meet X.K H z Q
theorem O2.of {f : Value → Value → Sem Value} {o : Op} {r : R2} (h : OpR X f r) (i : ∀ x y H Q d e z, opD o [d, e] = some z → Rd X.K H x d → Rd X.K H y e → Meet X.K H z Q → r x y H Q) : O2 X f o :=
  fun pins s σ H x y v u Q I rx ry ⟨d, e, z, hx, hy, ez, q⟩ => h pins s σ H x y v u Q I rx ry (i _ _ _ _ _ _ _ ez hx hy q)
def binO : Operator → Option Op
  | .Add => some .add | .Sub => some .sub | .Mult => some .mul | .FloorDiv => some .fdiv | .Mod => some .mod | .Pow => some .pow | .LShift => some .shl | .RShift => some .shr
  | .BitAnd => some .band | .BitOr => some .bor | .BitXor => some .bxor
  | _ => none
theorem bin_ok {op : Operator} {o : Op} (h : binO op = some o) : O2 X (binaryOp op) o := by
  cases op <;> cases h
  · exact .of or_add fun _ _ _ _ _ _ _ e hx hy q => s_add e hx hy q
  · exact .of op_sub fun _ _ _ _ _ _ _ e hx hy q => s_sub e hx hy q
  · exact .of or_mul fun _ _ _ _ _ _ _ e hx hy q => s_mul e hx hy q
  · exact .of op_mod fun _ _ _ _ _ _ _ e hx hy q => s_mod e hx hy q
  · exact .of op_pow fun _ _ _ _ _ _ _ e hx hy q => s_pow e hx hy q
  · exact .of op_shl fun _ _ _ _ _ _ _ e hx hy q => s_shl e hx hy q
  · exact .of op_shr fun _ _ _ _ _ _ _ e hx hy q => s_shr e hx hy q
  · exact .of op_or fun _ _ _ _ _ _ _ e hx hy q => s_bit e hx hy q
  · exact .of op_xor fun _ _ _ _ _ _ _ e hx hy q => s_bit e hx hy q
  · exact .of op_and fun _ _ _ _ _ _ _ e hx hy q => s_bit e hx hy q
  · exact .of op_fdivW fun _ _ _ _ _ _ _ e hx hy q => s_fdiv e hx hy q
def cmpO : CmpOp → Op
  | .Eq => .eq | .NotEq => .ne | .Lt => .lt | .LtE => .le | .Gt => .gt | .GtE => .ge | .Is => .is | .IsNot => .isn | .In => .inn | .NotIn => .nin
theorem cmp_ok {op : CmpOp} (hu : X.A.units + 65 < cLine) : O2 X (compareOp op) (cmpO op) := by
  cases op
  · exact .of (or_eq (by omega)) fun _ _ _ _ _ _ _ e hx hy q => s_eq e hx hy q
  · exact .of (or_ne (by omega)) fun _ _ _ _ _ _ _ e hx hy q => s_eq e hx hy q
  · exact .of (op_lt.or (op_cmpT hu).1) fun _ _ _ _ _ _ _ e hx hy q => s_cmp e hx hy q
  · exact .of (op_le.or (op_cmpT hu).2.1) fun _ _ _ _ _ _ _ e hx hy q => s_cmp e hx hy q
  · exact .of (op_gt.or (op_cmpT hu).2.2.1) fun _ _ _ _ _ _ _ e hx hy q => s_cmp e hx hy q
  · exact .of (op_ge.or (op_cmpT hu).2.2.2) fun _ _ _ _ _ _ _ e hx hy q => s_cmp e hx hy q
  · exact .of or_is fun _ _ _ _ _ _ _ e hx hy q => s_is e hx hy q
  · exact .of or_isn fun _ _ _ _ _ _ _ e hx hy q => s_is e hx hy q
  · exact .of (or_in hu) fun _ _ _ _ _ _ _ e hx hy q => s_in e hx hy q
  · exact .of (or_nin hu) fun _ _ _ _ _ _ _ e hx hy q => s_in e hx hy q
theorem cmp_B {op : CmpOp} {ds : List D} {z : D} (h : opD (cmpO op) ds = some z) : ∃ k, z = B k := by
  have k1 : ∀ {neg : Bool} {ds : List D}, eqOp neg ds = some z → ∃ k, z = B k := fun {neg ds} h => by
    unfold eqOp at h
    split at h
    · rename_i a b
      cases e : eqD a b with
      | none => rw [e] at h; cases h
      | some k => rw [e] at h; cases h; exact ⟨_, rfl⟩
    · cases h
  have k2 : ∀ {f : Int → Int → Bool} {g : T → T → Bool}, cmpD f g ds = some z → ∃ k, z = B k := fun {f g} h => by
    unfold cmpD at h
    split at h
    · cases h; exact ⟨_, rfl⟩
    · split at h
      · cases h; exact ⟨_, rfl⟩
      · cases h
    · cases h
  have k3 : ∀ {neg : Bool}, isD neg ds = some z → ∃ k, z = B k := fun {f} h => by
    unfold isD at h
    split at h <;> cases h <;> exact ⟨_, rfl⟩
  have k4 : ∀ {neg : Bool}, inD neg ds = some z → ∃ k, z = B k := fun {f} h => by
    unfold inD at h
    split at h
    · split at h
      · split at h
        · cases h; exact ⟨_, rfl⟩
        · cases h
      · cases h
    · cases h
  cases op
  · exact k1 h
  · exact k1 h
  · exact k2 (f := fun i j => decide (i < j)) (g := ltT) h
  · exact k2 (f := fun i j => decide (i ≤ j)) (g := fun t u => !ltT u t) h
  · exact k2 (f := fun i j => decide (j < i)) (g := fun t u => ltT u t) h
  · exact k2 (f := fun i j => decide (j ≤ i)) (g := fun t u => !ltT t u) h
  · exact k3 h
  · exact k3 h
  · exact k4 h
  · exact k4 h
end
end PF

set_option Elab.async false
set_option linter.all false
set_option maxRecDepth 100000
/-! PF17: from the text to the interpreter's expressions -/
namespace PF
open PySem PySem.Spec PyProof.Rows L2

/-- what a text's names mean: the places, the defs that are called, the constants, the built-ins -/
structure Ctx where
  N : List Str
  fs : List Str
  gs : List (Str × T)
  bl : List Str
def ixOf (x : Str) : List Str → Option Nat
  | [] => none
  | y :: r => if y = x then some 0 else (ixOf x r).map (· + 1)
theorem ixOf_get {x : Str} : ∀ {N : List Str} {i : Nat}, ixOf x N = some i → N[i]? = some x
  | [], _, h => by cases h
  | y :: r, i, h => by
    unfold ixOf at h
    split at h
    · rename_i e
      cases h
      rw [e]; rfl
    · cases e : ixOf x r with
      | none => rw [e] at h; cases h
      | some j =>
        rw [e] at h; cases h
        exact ixOf_get (N := r) e
def visB (sc : Scope) (x : Str) : Bool := match sc.names.lookup x with
  | some .local => true | some .cell => true | some .free => true | _ => false
def glB (sc : Scope) (x : Str) : Bool := match sc.names.lookup x with
  | some .globalImplicit => true | _ => false
def locB (sc : Scope) (x : Str) : Bool := match sc.names.lookup x with
  | some .local => true | some .cell => true | _ => false
def okNm (x : Str) : Bool := !(x == ("__debug__" : Str)) && !(x == ("__classdict__" : Str)) && !(x == ("__name__" : Str))
theorem visB_of {sc : Scope} {x : Str} (h : visB sc x = true) : Vis sc x := by
  unfold visB at h
  split at h
  · exact .inl (by assumption)
  · exact .inr (.inl (by assumption))
  · exact .inr (.inr (by assumption))
  · cases h
theorem locB_of {sc : Scope} {x : Str} (h : locB sc x = true) : Loc sc x := by
  unfold locB at h
  split at h
  · exact .inl (by assumption)
  · exact .inr (by assumption)
  · cases h
theorem okNm_of {x : Str} (h : okNm x = true) : (x == ("__debug__" : Str)) = false ∧ (x == ("__classdict__" : Str)) = false ∧ x ≠ "__name__" := by
  unfold okNm at h
  simp only [Bool.and_eq_true, Bool.not_eq_true'] at h
  exact ⟨h.1.1, h.1.2, by simpa using h.2⟩
def cstS : Const → Option T
  | .none => some .non
  | .bool b => some (.bl b)
  | .int i => some (.int i)
  | .str x => some (.str x)
  | _ => none
/-- built-ins of values -/
def blt1 (f : Str) : Option Op :=
  if f = "len" then some .len else if f = "all" then some .all else if f = "any" then some .any else if f = "sum" then some .sum else if f = "max" then some .max1 else if f = "min" then some .min1
  else if f = "abs" then some .abs else if f = "int" then some .int else if f = "str" then some .str else if f = "tuple" then some .tuple else if f = "list" then some .list else if f = "sorted" then some .sorted else none
def blt2 (f : Str) : Option Op := if f = "max" then some .max2 else if f = "min" then some .min2 else none
def blt3 (f : Str) : Option Op := if f = "max" then some .max3 else if f = "min" then some .min3 else none
def tyN (f : Str) : Option String :=
  if f = "int" then some "int" else if f = "bool" then some "bool" else if f = "str" then some "str" else if f = "tuple" then some "tuple" else if f = "list" then some "list" else if f = "dict" then some "dict" else none
def optL (f : Expr → Option Ex) : List Expr → Option (List Ex)
  | [] => some []
  | e :: es => match f e, optL f es with
    | some x, some xs => some (x :: xs)
    | _, _ => none
def joinB (op : BoolOp) : List Ex → Option Ex
  | [] => none
  | [a] => some a
  | a :: r => (joinB op r).map fun b => match op with | .And => .and_ a b | .Or => .or_ a b
def slotS (Δ : Ctx) (sc : Scope) : Expr → Option (Str × Nat)
  | .Name x _ => if locB sc x then (ixOf x Δ.N).map fun i => (x, i) else none
  | _ => none
def slotsS (Δ : Ctx) (sc : Scope) : List Expr → Option (List (Str × Nat))
  | [] => some []
  | e :: es => match slotS Δ sc e, slotsS Δ sc es with
    | some x, some xs => some (x :: xs)
    | _, _ => none
/-- a target's names -/
def tgS (Δ : Ctx) (sc : Scope) : Expr → Option (Tg × List (Str × Nat))
  | .Name x p => (slotS Δ sc (.Name x p)).map fun y => (.one y.2, [y])
  | .Tuple es _ _ => (slotsS Δ sc es).map fun l => (.many (l.map (·.2)), l)
  | _ => none
def isTupE : Expr → Bool
  | .Tuple _ _ _ => true
  | _ => false
def plainRecv : Expr → Bool
  | .Call (.Name _ _) [] [] _ => false
  | _ => true
/-- what is walked -/
def iterS (Δ : Ctx) (sc : Scope) (f : Expr → Option Ex) (tup : Bool) : Expr → Option (Nat × List Ex)
  | .Call (.Name x p) es [] pos =>
    if glB sc x && okNm x && Δ.bl.contains x && x = "range" then match es with
      | [a] => (f a).map fun a => (1, [a])
      | [a, b] => match f a, f b with
        | some a, some b => some (2, [a, b])
        | _, _ => none
      | _ => none
    else if glB sc x && okNm x && Δ.bl.contains x && tup && x = "enumerate" then match es with
      | [a] => (f a).map fun a => (3, [a])
      | _ => none
    else if glB sc x && okNm x && Δ.bl.contains x && tup && x = "zip" then match es with
      | [a, b] => match f a, f b with
        | some a, some b => some (4, [a, b])
        | _, _ => none
      | _ => none
    else (f (.Call (.Name x p) es [] pos)).map fun a => (0, [a])
  | .Set _ _ _ => none
  | e => (f e).map fun a => (0, [a])
def strip (Δ : Ctx) : Nat → Scope → Expr → Option Ex
  | 0, _, _ => none
  | n + 1, sc, e => match e with
    | .Constant c _ _ => (cstS c).map .cst
    | .Name x _ => if !okNm x then none else if visB sc x then (ixOf x Δ.N).map .nm else if glB sc x then (Δ.gs.lookup x).map .cst else none
    | .BinOp a op b _ => match binO op, strip Δ n sc a, strip Δ n sc b with
      | some o, some x, some y => some (.op o [x, y])
      | _, _, _ => none
    | .UnaryOp .Not a _ => (strip Δ n sc a).map .not_
    | .UnaryOp .USub a _ => (strip Δ n sc a).map fun x => .op .neg [x]
    | .BoolOp op vs _ => (optL (strip Δ n sc) vs).bind (joinB op)
    | .Compare a [op] [b] _ => if behindInMarks op b then none else match strip Δ n sc a, strip Δ n sc b with
      | some x, some y => some (.op (cmpO op) [x, y])
      | _, _ => none
    | .Compare a [o1, o2] [b, c] _ => if lastMarks [o1, o2] [b, c] then none else match strip Δ n sc a, strip Δ n sc b, strip Δ n sc c with
      | some x, some y, some z => some (.chain (cmpO o1) (cmpO o2) x y z)
      | _, _, _ => none
    | .IfExp c a b _ => match strip Δ n sc c, strip Δ n sc a, strip Δ n sc b with
      | some x, some y, some z => some (.ifx x y z)
      | _, _, _ => none
    | .Tuple es _ _ => (optL (strip Δ n sc) es).map .tup
    | .List es _ => (optL (strip Δ n sc) es).map .lst
    | .Subscript a (.Slice none none none _) _ => (strip Δ n sc a).map fun x => .op (.slice false false) [x]
    | .Subscript a (.Slice (some l) none none _) _ => match strip Δ n sc a, strip Δ n sc l with
      | some x, some y => some (.op (.slice true false) [x, y])
      | _, _ => none
    | .Subscript a (.Slice none (some l) none _) _ => match strip Δ n sc a, strip Δ n sc l with
      | some x, some y => some (.op (.slice false true) [x, y])
      | _, _ => none
    | .Subscript a (.Slice (some l) (some h) none _) _ => match strip Δ n sc a, strip Δ n sc l, strip Δ n sc h with
      | some x, some y, some z => some (.slc x y z)
      | _, _, _ => none
    | .Subscript _ (.Slice _ _ _ _) _ => none
    | .Subscript a b _ => match strip Δ n sc a, strip Δ n sc b with
      | some x, some y => some (.idx x y)
      | _, _ => none
    | .ListComp elt [⟨tg, iter, ifs, 0⟩] scope _ => match tgS Δ scope tg with
      | some (t, own) => if blkC Δ.N sc scope own && decide (ifs.length ≤ 1) then match iterS Δ sc (strip Δ n sc) (isTupE tg) iter, optL (strip Δ n (relS scope sc)) ifs, strip Δ n (relS scope sc) elt with
        | some (k, src), some cs, some x => some (.comp x t k src cs)
        | _, _, _ => none
        else none
      | none => none
    | .Call (.Name f p) args [] pos => if !(glB sc f && okNm f) then none else match ixOf f Δ.fs with
      | some k => (optL (strip Δ n sc) args).map fun xs => .call k xs
      | none => if !Δ.bl.contains f then none else match args with
        | [.Call (.Name g p2) rs [] pos2] =>
          if f = "list" ∧ g = "range" ∧ glB sc g ∧ Δ.bl.contains g then match rs with
            | [a] => (strip Δ n sc a).map fun x => .op .lrng1 [x]
            | [a, b] => match strip Δ n sc a, strip Δ n sc b with
              | some x, some y => some (.op .lrng2 [x, y])
              | _, _ => none
            | _ => none
          else if f = "tuple" ∧ g = "range" ∧ glB sc g ∧ Δ.bl.contains g then match rs with
            | [a] => (strip Δ n sc a).map fun x => .op .trng1 [x]
            | [a, b] => match strip Δ n sc a, strip Δ n sc b with
              | some x, some y => some (.op .trng2 [x, y])
              | _, _ => none
            | _ => none
          else match blt1 f, strip Δ n sc (.Call (.Name g p2) rs [] pos2) with
            | some o, some x => some (.op o [x])
            | _, _ => none
        | [a] => match blt1 f, strip Δ n sc a with
          | some o, some x => some (.op o [x])
          | _, _ => none
        | [a, b] => if f = "isinstance" then match b with
            | .Name t _ => if glB sc t && okNm t && Δ.bl.contains t then match strip Δ n sc a, tyN t with
              | some x, some nm => some (.op (.isi nm) [x])
              | _, _ => none
              else none
            | .Tuple [.Name t _, .Name u _] _ _ => if (glB sc t && okNm t && Δ.bl.contains t) && (glB sc u && okNm u && Δ.bl.contains u) then match strip Δ n sc a, tyN t, tyN u with
              | some x, some nm, some nm2 => some (.op (.isi2 nm nm2) [x])
              | _, _, _ => none
              else none
            | _ => none
          else match blt2 f, strip Δ n sc a, strip Δ n sc b with
            | some o, some x, some y => some (.op o [x, y])
            | _, _, _ => none
        | [a, b, c] => match blt3 f, strip Δ n sc a, strip Δ n sc b, strip Δ n sc c with
            | some o, some x, some y, some z => some (.op o [x, y, z])
            | _, _, _, _ => none
        | _ => none
    | .Call (.Attribute o m apos) [a] [] cpos => if !(apos.endLine == cpos.line && plainRecv o) then none else
      match (if m = "index" then some Op.index else if m = "count" then some Op.count else none), strip Δ n sc o, strip Δ n sc a with
      | some k, some x, some y => some (.mth k x y)
      | _, _, _ => none
    | _ => none
end PF

set_option Elab.async false
set_option linter.all false
set_option maxRecDepth 100000
/-! PF18: the text's expressions answer as the interpreter says -/
namespace PF
open PySem PySem.Spec PyProof.Rows L2
abbrev CXn : CXT := fun _ _ _ _ _ _ => False
theorem passN {X : Cx} {E : XK} : Passes CXn X E := fun _ _ _ _ _ _ _ h => h.elim
/-- a def that is called -/
structure Cal (X : Cx) (c : CT) (f : Str) where
  a : Addr
  fd : FuncData
  ps : List Str
  n : Nat
  fn : FnOk X.prog X.w X.K X.mg X.base CXn n a fd ps (spC X.K c)
  room : Room n X.A
  glob : X.mg f = some (.ref a)
  kp : PySem.W.keepIn X.K (.ref a) = true
  bi : Binds X.K fd ps []
structure Ok (X : Cx) (Δ : Ctx) (Γ : List CT) : Prop where
  N : X.N = Δ.N
  nd : X.N.Nodup
  calm : X.calm = true
  un : X.A.units + 65 < cLine
  fs : ∀ (k : Nat) (f : Str), Δ.fs[k]? = some f → ∃ c, Γ[k]? = some c ∧ Nonempty (Cal X c f)
  gs : ∀ (x : Str) (t : T), Δ.gs.lookup x = some t → ∃ u v, X.mg x = some u ∧ RelV v u ∧ ∀ H, RT X.K H v t
  bl : ∀ b : Str, Δ.bl.contains b = true → X.mg b = none
theorem Ok.blk {X : Cx} {Δ : Ctx} {Γ : List CT} (o : Ok X Δ Γ) (s : Shared) (H : Hp) (scope : Scope) (ce : Env) (fp : List Addr) : Ok (X.blk s H scope ce fp) Δ Γ :=
  ⟨o.N, o.nd, o.calm, o.un, fun k f h => by
    obtain ⟨c, h1, ⟨l⟩⟩ := o.fs k f h
    exact ⟨c, h1, ⟨⟨l.a, l.fd, l.ps, l.n, l.fn, l.room, l.glob, l.kp, l.bi⟩⟩⟩, o.gs, o.bl⟩
theorem PEi {X : Cx} {e : Expr} {t t' : TE} (h : PE X e t) (i : ∀ σ H Q, t' σ H Q → t σ H Q) : PE X e t' := ⟨fun pins s σ H Q I q => h.run pins s σ H Q I (i _ _ _ q)⟩
theorem PTi {X : Cx} {e : Expr} {t t' : TT} (h : PT X e t) (i : ∀ σ H Q, t' σ H Q → t σ H Q) : PT X e t' := ⟨fun pins s σ H Q I q => h.run pins s σ H Q I (i _ _ _ q)⟩
theorem PWi {X : Cx} {e : Expr} {t t' : TT} (h : PW X e t) (i : ∀ σ H Q, t' σ H Q → t σ H Q) : PW X e t' := ⟨fun w pins s σ H Q I q => h.run w pins s σ H Q I (i _ _ _ q)⟩
theorem PAi {X : Cx} {e : List Expr} {t t' : TA} (h : PA X e t) (i : ∀ σ H Q, t' σ H Q → t σ H Q) : PA X e t' := ⟨fun p pins s σ H Q I q => h.run p pins s σ H Q I (i _ _ _ q)⟩
theorem PIi {X : Cx} {tg e : Expr} {t t' : TI} (h : PI X tg e t) (i : ∀ σ H Q, t' σ H Q → t σ H Q) : PI X tg e t' := ⟨fun pins s σ H Q I q => h.run pins s σ H Q I (i _ _ _ q)⟩
def noStar : Expr → Bool
  | .Starred _ _ => false
  | _ => true
theorem star1 {e : Expr} {es : List Expr} {env : Env} (h : noStar e = true) : starEach (e :: es) env = (false, eval e env) :: starEach es env := by
  cases e <;> first | rfl | cases h
theorem starAny {env : Env} {pos : Pos} : ∀ {es : List Expr}, (∀ e ∈ es, noStar e = true) → (backTo pos (starEach es env)).any (·.1) = false
  | [], _ => rfl
  | e :: es, h => by
    rw [star1 (h e List.mem_cons_self)]
    show (false || (backTo pos (starEach es env)).any (·.1)) = false
    rw [starAny fun x hx => h x (List.mem_cons_of_mem _ hx)]
    rfl
theorem strip_star {Δ : Ctx} {n : Nat} {sc : Scope} {e : Expr} {x : Ex} (h : strip Δ n sc e = some x) : noStar e = true := by
  cases n with
  | zero => cases h
  | succ n =>
    cases e <;> first | rfl | skip
    simp only [strip] at h
    cases h
theorem attrBase {o : Expr} {m : Str} {env : Env} {w : Sem Value} (h : plainRecv o = true) : attributeBase o m env w = w := by
  unfold attributeBase
  split
  · cases h
  · rfl
theorem noSet {Δ : Ctx} {sc : Scope} {f : Expr → Option Ex} {t : Bool} {e : Expr} {r : Nat × List Ex} (h : iterS Δ sc f t e = some r) (env : Env) (x : Value) : foldedSetIterable e env x = pure x := by
  cases e <;> first | rfl | cases h
theorem plainIx {b : Expr} (h : ∀ l u p, b ≠ .Slice l u none p) : PlainIx b := by
  intro o i
  unfold subscripted
  split
  · exact absurd rfl (h _ _ _)
  · rename_i h2; cases h2
  · rfl
section
variable {X : Cx} {Δ : Ctx} {Γ : List CT}
/-- what is shown of each expression -/
def Good (X : Cx) (Γ : List CT) (e : Expr) (x : Ex) : Prop := PE X e (xE Γ X.K x) ∧ PT X e (xT Γ X.K x)
theorem good_val {e : Expr} {x : Ex} (h : PE X e (xE Γ X.K x)) (he : ∀ whole, isTrue e X.env whole = (do let v ← whole; standAt e.pos; holding [v] (truthy v))) : Good X Γ e x :=
  ⟨h, PTi (pt_truth h he) fun _ _ _ q => t_val q⟩
theorem optL_get {f : Expr → Option Ex} : ∀ {es : List Expr} {xs : List Ex}, optL f es = some xs → ∀ e ∈ es, ∃ x, f e = some x
  | [], _, _, _, h => by cases h
  | e :: es, xs, h, e', he => by
    simp only [optL] at h
    split at h
    · rename_i x ys h1 h2
      rcases List.mem_cons.mp he with rfl | he
      · exact ⟨x, h1⟩
      · exact optL_get h2 e' he
    · cases h
theorem pa_ok {f : Expr → Option Ex} (ih : ∀ e x, f e = some x → Good X Γ e x) (st : ∀ e x, f e = some x → noStar e = true) : ∀ {es : List Expr} {xs : List Ex}, optL f es = some xs → PA X es (xL Γ X.K xs)
  | [], _, h => by cases h; exact PAi pa_nil fun _ _ _ q => xL_nil q
  | e :: es, xs, h => by
    simp only [optL] at h
    split at h
    · rename_i x ys h1 h2
      cases h
      exact PAi (pa_cons (ih e x h1).1 (pa_ok ih st h2) (star1 (st e x h1))) fun _ _ _ q => xL_cons q
    · cases h
theorem all_star {f : Expr → Option Ex} (st : ∀ e x, f e = some x → noStar e = true) {es : List Expr} {xs : List Ex} (h : optL f es = some xs) : ∀ e ∈ es, noStar e = true := fun e he => by
  obtain ⟨x, hx⟩ := optL_get h e he
  exact st e x hx
theorem bool_ok {op : BoolOp} {pos : Pos} {f : Expr → Option Ex} (ih : ∀ e x, f e = some x → Good X Γ e x) : ∀ {vs : List Expr} {xs : List Ex} {x : Ex}, optL f vs = some xs → joinB op xs = some x →
    PE X (.BoolOp op vs pos) (xE Γ X.K x) ∧ PW X (.BoolOp op vs pos) (xT Γ X.K x)
  | [], _, _, h, j => by cases h; cases j
  | [a], xs, x, h, j => by
    simp only [optL] at h
    split at h
    · rename_i y ys h1 h2
      cases h2
      cases h
      cases j
      have g := ih a x h1
      refine ⟨pe_one g.1, ?_⟩
      cases op with
      | And => exact pw_and1 g.2
      | Or => exact pw_or1 g.2
    · cases h
  | a :: b :: r, xs, x, h, j => by
    simp only [optL] at h
    split at h
    · rename_i y ys h1 h2
      have h2' : optL f (b :: r) = some ys := h2
      cases h
      cases ys with
      | nil => simp only [optL] at h2'; split at h2' <;> cases h2'
      | cons z zs =>
        simp only [joinB] at j
        cases e : joinB op (z :: zs) with
        | none => rw [e] at j; cases j
        | some w =>
          rw [e] at j
          have g := ih a y h1
          have rc := bool_ok (op := op) (pos := pos) ih h2' e
          cases op with
          | And =>
            cases j
            exact ⟨PEi (pe_andT g.1 rc.1) fun _ _ _ q => x_and q, PWi (pw_and g.2 rc.2) fun _ _ _ q => t_and q⟩
          | Or =>
            cases j
            exact ⟨PEi (pe_orT g.1 rc.1) fun _ _ _ q => x_or q, PWi (pw_or g.2 rc.2) fun _ _ _ q => t_or q⟩
    · cases h
/-- two arguments of an operator -/
theorem x_op2 {K : PySem.W.Frag} {σ : L2.St} {H : Hp} {o : Op} {x y : Ex} {Q : VK} (h : xE Γ K (.op o [x, y]) σ H Q) : xE Γ K x σ H fun v H1 => xE Γ K y σ H1 fun u H2 => ∃ d e z, Rd K H2 v d ∧ Rd K H2 u e ∧ opD o [d, e] = some z ∧ Meet K H2 z Q :=
  (xL_two (x_op h)).mono fun v H1 h => h.mono fun u H2 ⟨ds, z, r, e, m⟩ => by
    cases r with
    | cons r1 t =>
      cases t with
      | cons r2 t => cases t; exact ⟨_, _, z, r1, r2, e, m⟩
theorem x_op1 {K : PySem.W.Frag} {σ : L2.St} {H : Hp} {o : Op} {x : Ex} {Q : VK} (h : xE Γ K (.op o [x]) σ H Q) : xE Γ K x σ H fun v H1 => ∃ d z, Rd K H1 v d ∧ opD o [d] = some z ∧ Meet K H1 z Q :=
  (xL_one (x_op h)).mono fun v H1 ⟨ds, z, r, e, m⟩ => by
    cases r with
    | cons r1 t => cases t; exact ⟨_, z, r1, e, m⟩
theorem xL_three {K : PySem.W.Frag} {σ : L2.St} {H : Hp} {x y w : Ex} {Q : List V → Hp → Prop} (h : xL Γ K [x, y, w] σ H Q) : xE Γ K x σ H fun v H1 => xE Γ K y σ H1 fun u H2 => xE Γ K w σ H2 fun t H3 => Q [v, u, t] H3 :=
  (xL_cons h).mono fun _ _ h => (xL_cons h).mono fun _ _ h => (xL_cons h).mono fun _ _ h => xL_nil h
theorem x_op3 {K : PySem.W.Frag} {σ : L2.St} {H : Hp} {o : Op} {x y w : Ex} {Q : VK} (h : xE Γ K (.op o [x, y, w]) σ H Q) : xE Γ K x σ H fun v H1 => xE Γ K y σ H1 fun u H2 => xE Γ K w σ H2 fun t H3 => ∃ ds z, Rds K H3 [v, u, t] ds ∧ opD o ds = some z ∧ Meet K H3 z Q :=
  xL_three (x_op h)
/-- a test whose value is a bool -/
theorem t_bl {K : PySem.W.Frag} {σ : L2.St} {H : Hp} {x : Ex} {Q : Bool → Hp → Prop} (hb : ∀ q ρ r ρ', ev Γ q x ρ = some (r, ρ') → ∃ k, r = .rv (B k)) (h : xT Γ K x σ H Q) : tTest (xE Γ K x) σ H Q := by
  obtain ⟨β, q, ρ, F, r, ρ', k, p, e, ek, kk⟩ := h
  obtain ⟨b, rfl⟩ := hb q ρ r ρ' e
  cases ek
  refine ⟨β, q, ρ, F, _, ρ', p, e, fun v H' F' G h => ⟨k, ?_, kk H' F' h.t⟩⟩
  exact (h.rr.rd h.eo rfl).bl
theorem ev_cmp {op : CmpOp} {xs : List Ex} {q : Bool} {ρ ρ' : List S} {r : R} (h : ev Γ q (.op (cmpO op) xs) ρ = some (r, ρ')) : ∃ k, r = .rv (B k) := by
  simp only [ev] at h
  split at h
  · split at h
    · split at h
      · rename_i d e
        cases h
        obtain ⟨k, rfl⟩ := cmp_B e
        exact ⟨k, rfl⟩
      · cases h
    · cases h
  · cases h
theorem ev_chain {o1 o2 : CmpOp} {a b c : Ex} {q : Bool} {ρ ρ' : List S} {r : R} (h : ev Γ q (.chain (cmpO o1) (cmpO o2) a b c) ρ = some (r, ρ')) : ∃ k, r = .rv (B k) := by
  simp only [ev] at h
  split at h
  · split at h
    · split at h
      · split at h
        · split at h
          · split at h
            · split at h
              · split at h
                · rename_i d e
                  cases h
                  obtain ⟨k, rfl⟩ := cmp_B e
                  exact ⟨k, rfl⟩
                · cases h
              · cases h
            · cases h
          · cases h; exact ⟨false, rfl⟩
          · cases h
        · cases h
      · cases h
    · cases h
  · cases h
/-! ### names -/
theorem slot_pg {X : Cx} {Δ : Ctx} {sc : Scope} {e : Expr} {x : Str} {i : Nat} (hN : X.N = Δ.N) (nd : X.N.Nodup) (h : slotS Δ sc e = some (x, i)) (hl : locB sc x = true → Loc X.env.scope x) (hf : locB sc x = true → X.fn x = true ∨ X.env.scope.names.lookup x = some .local) : PG X e (gName i) := by
  unfold slotS at h
  split at h
  · rename_i y p
    split at h
    · rename_i hb
      cases e1 : ixOf y Δ.N with
      | none => rw [e1] at h; cases h
      | some j =>
        rw [e1] at h; cases h
        exact pg_name nd (by rw [hN]; exact ixOf_get e1) (hl hb) (hf hb)
    · cases h
  · cases h
theorem slot_name {Δ : Ctx} {sc : Scope} {e : Expr} {y : Str × Nat} (h : slotS Δ sc e = some y) : ∃ x p, e = .Name x p := by
  unfold slotS at h
  split at h
  · exact ⟨_, _, rfl⟩
  · cases h
theorem slots_pg {X : Cx} {Δ : Ctx} {sc : Scope} (hN : X.N = Δ.N) (nd : X.N.Nodup) (hl : ∀ x, locB sc x = true → Loc X.env.scope x) (hf : ∀ x, locB sc x = true → X.fn x = true ∨ X.env.scope.names.lookup x = some .local) :
    ∀ {es : List Expr} {l : List (Str × Nat)}, slotsS Δ sc es = some l → PGs X es (gNames (l.map (·.2))) ∧ (assignEach es X.env).length = l.length ∧ (assignEach es X.env).findIdx? (·.1) = none
  | [], _, h => by cases h; exact ⟨pgs_nil, rfl, rfl⟩
  | e :: es, l, h => by
    simp only [slotsS] at h
    split at h
    · rename_i y ys h1 h2
      cases h
      obtain ⟨x, i⟩ := y
      obtain ⟨g, hl2, hs⟩ := slots_pg hN nd hl hf h2
      obtain ⟨x', p, rfl⟩ := slot_name h1
      refine ⟨pgs_cons (slot_pg hN nd h1 (hl x) (hf x)) g, ?_, ?_⟩
      · show (assignEach es X.env).length + 1 = _
        rw [hl2]; rfl
      · show (((false, assign (.Name x' p) X.env) :: assignEach es X.env)).findIdx? (·.1) = none
        rw [List.findIdx?_cons]
        simp only [Bool.false_eq_true, if_false, hs, Option.map_none]
    · cases h
theorem tg_pg {X : Cx} {Δ : Ctx} {sc : Scope} {e : Expr} {t : Tg} {own : List (Str × Nat)} (hc : X.calm = true) (hN : X.N = Δ.N) (nd : X.N.Nodup) (h : tgS Δ sc e = some (t, own)) (hl : ∀ x, locB sc x = true → Loc X.env.scope x) (hf : ∀ x, locB sc x = true → X.fn x = true ∨ X.env.scope.names.lookup x = some .local) :
    PG X e (gT X.K t) ∧ own.map (·.2) = t.own := by
  unfold tgS at h
  split at h
  · rename_i x p
    cases e1 : slotS Δ sc (.Name x p) with
    | none => rw [e1] at h; cases h
    | some y =>
      rw [e1] at h; cases h
      obtain ⟨x', i⟩ := y
      exact ⟨slot_pg hN nd e1 (hl x') (hf x'), rfl⟩
  · rename_i es k p
    cases e1 : slotsS Δ sc es with
    | none => rw [e1] at h; cases h
    | some l =>
      rw [e1] at h; cases h
      obtain ⟨g, h1, h2⟩ := slots_pg hN nd hl hf e1
      refine ⟨?_, rfl⟩
      show PG X (.Tuple es k p) (gTup X.K (own.map (·.2)).length (gNames (own.map (·.2))))
      rw [List.length_map]
      exact pg_tup hc g h1 h2
  · cases h
end
end PF

set_option Elab.async false
set_option linter.all false
set_option maxRecDepth 100000
/-! PF19: the built-ins by name, what is walked, comprehensions -/
namespace PF
open PySem PySem.Spec PyProof.Rows L2
section
variable {X : Cx} {Δ : Ctx} {Γ : List CT}
theorem ite_cases {α : Type} {p : Prop} [Decidable p] {a b : Option α} {o : α} (h : (if p then a else b) = some o) : (p ∧ a = some o) ∨ (¬ p ∧ b = some o) := by
  by_cases e : p
  · rw [if_pos e] at h; exact .inl ⟨e, h⟩
  · rw [if_neg e] at h; exact .inr ⟨e, h⟩
theorem bt_len : bootBuiltins "len" = some (.builtin "len") := by decide +kernel
theorem bt_all : bootBuiltins "all" = some (.builtin "all") := by decide +kernel
theorem bt_any : bootBuiltins "any" = some (.builtin "any") := by decide +kernel
theorem bt_sum : bootBuiltins "sum" = some (.builtin "sum") := by decide +kernel
theorem bt_max : bootBuiltins "max" = some (.builtin "max") := by decide +kernel
theorem bt_min : bootBuiltins "min" = some (.builtin "min") := by decide +kernel
theorem bt_abs : bootBuiltins "abs" = some (.builtin "abs") := by decide +kernel
theorem bt_sorted : bootBuiltins "sorted" = some (.builtin "sorted") := by decide +kernel
theorem bt_isi : bootBuiltins "isinstance" = some (.builtin "isinstance") := by decide +kernel
theorem bt_int : bootBuiltins "int" = some (.type "int") := by decide +kernel
theorem bt_bool : bootBuiltins "bool" = some (.type "bool") := by decide +kernel
theorem bt_str : bootBuiltins "str" = some (.type "str") := by decide +kernel
theorem bt_tuple : bootBuiltins "tuple" = some (.type "tuple") := by decide +kernel
theorem bt_list : bootBuiltins "list" = some (.type "list") := by decide +kernel
theorem bt_dict : bootBuiltins "dict" = some (.type "dict") := by decide +kernel
theorem glB_of {sc : Scope} {x : Str} (hs : X.env.scope = sc) (h : glB sc x = true) : Gl X x := by
  unfold glB at h
  split at h
  · rename_i e
    show X.env.scope.names.lookup x = _
    rw [hs]; exact e
  · cases h
theorem cs_pe {id : String} {f : Str} {o : Op} {a : Expr} {x : Ex} {p pos : Pos} (hc : CS X (.builtin id) (opD o)) (hg : Gl X f) (hm : X.mg f = none) (hv : bootBuiltins f = some (.builtin id)) (ha : PE X a (xE Γ X.K x)) (st : noStar a = true) (hn : f ≠ "__name__") (hd : (f == ("__debug__" : Str)) = false) :
    PE X (.Call (.Name f p) [a] [] pos) (xE Γ X.K (.op o [x])) :=
  PEi (pe_callB hc hg hm hv (PAi (pa_cons ha pa_nil (star1 st)) fun _ _ _ q => q) hn hd (star1 st) rfl) fun σ H Q q => by
    refine xE.mono (x_op1 q) fun v H1 ⟨d, z, r, e, m⟩ => ⟨[d], z, .cons r .nil, e, m⟩
theorem ct_pe {T' : String} {f : Str} {o : Op} {a : Expr} {x : Ex} {p pos : Pos} (hc : CS X (.type T') (opD o)) (hg : Gl X f) (hm : X.mg f = none) (hv : bootBuiltins f = some (.type T')) (ha : PE X a (xE Γ X.K x)) (st : noStar a = true) (hn : f ≠ "__name__") (hd : (f == ("__debug__" : Str)) = false) :
    PE X (.Call (.Name f p) [a] [] pos) (xE Γ X.K (.op o [x])) :=
  PEi (pe_callTy hc hg hm hv (PAi (pa_cons ha pa_nil (star1 st)) fun _ _ _ q => q) hn hd (star1 st) rfl) fun σ H Q q => by
    refine xE.mono (x_op1 q) fun v H1 ⟨d, z, r, e, m⟩ => ⟨[d], z, .cons r .nil, e, m⟩
theorem blt1_ok {f : Str} {o : Op} {a : Expr} {x : Ex} {p pos : Pos} (h : blt1 f = some o) (ok : Ok X Δ Γ) (hg : Gl X f) (hb : Δ.bl.contains f = true) (hk : okNm f = true) (ha : PE X a (xE Γ X.K x)) (st : noStar a = true) : PE X (.Call (.Name f p) [a] [] pos) (xE Γ X.K (.op o [x])) := by
  have hm := ok.bl f hb
  obtain ⟨hd, _, hn⟩ := okNm_of hk
  unfold blt1 at h
  rcases ite_cases h with ⟨e, h⟩ | ⟨_, h⟩
  · subst e; cases Option.some.inj h; exact cs_pe cs_len hg hm bt_len ha st hn hd
  rcases ite_cases h with ⟨e, h⟩ | ⟨_, h⟩
  · subst e; cases Option.some.inj h; exact cs_pe (cs_all ok.calm) hg hm bt_all ha st hn hd
  rcases ite_cases h with ⟨e, h⟩ | ⟨_, h⟩
  · subst e; cases Option.some.inj h; exact cs_pe (cs_any ok.calm) hg hm bt_any ha st hn hd
  rcases ite_cases h with ⟨e, h⟩ | ⟨_, h⟩
  · subst e; cases Option.some.inj h; exact cs_pe (cs_sum ok.calm) hg hm bt_sum ha st hn hd
  rcases ite_cases h with ⟨e, h⟩ | ⟨_, h⟩
  · subst e; cases Option.some.inj h; exact cs_pe (cs_max1 ok.calm ok.un) hg hm bt_max ha st hn hd
  rcases ite_cases h with ⟨e, h⟩ | ⟨_, h⟩
  · subst e; cases Option.some.inj h; exact cs_pe (cs_min1 ok.calm ok.un) hg hm bt_min ha st hn hd
  rcases ite_cases h with ⟨e, h⟩ | ⟨_, h⟩
  · subst e; cases Option.some.inj h; exact cs_pe cs_abs hg hm bt_abs ha st hn hd
  rcases ite_cases h with ⟨e, h⟩ | ⟨_, h⟩
  · subst e; cases Option.some.inj h; exact ct_pe cs_int hg hm bt_int ha st hn hd
  rcases ite_cases h with ⟨e, h⟩ | ⟨_, h⟩
  · subst e; cases Option.some.inj h; exact ct_pe cs_str hg hm bt_str ha st hn hd
  rcases ite_cases h with ⟨e, h⟩ | ⟨_, h⟩
  · subst e; cases Option.some.inj h; exact ct_pe cs_tuple hg hm bt_tuple ha st hn hd
  rcases ite_cases h with ⟨e, h⟩ | ⟨_, h⟩
  · subst e; cases Option.some.inj h; exact ct_pe cs_list hg hm bt_list ha st hn hd
  rcases ite_cases h with ⟨e, h⟩ | ⟨_, h⟩
  · subst e; cases Option.some.inj h; exact cs_pe (cs_sorted ok.un) hg hm bt_sorted ha st hn hd
  cases h
theorem cs_pe2 {id : String} {f : Str} {o : Op} {a b : Expr} {x y : Ex} {p pos : Pos} (hc : CS X (.builtin id) (opD o)) (hg : Gl X f) (hm : X.mg f = none) (hv : bootBuiltins f = some (.builtin id)) (ha : PE X a (xE Γ X.K x)) (hb : PE X b (xE Γ X.K y)) (st : noStar a = true) (st2 : noStar b = true) (hn : f ≠ "__name__") (hd : (f == ("__debug__" : Str)) = false) :
    PE X (.Call (.Name f p) [a, b] [] pos) (xE Γ X.K (.op o [x, y])) :=
  PEi (pe_callB hc hg hm hv (PAi (pa_cons ha (pa_cons hb pa_nil (star1 st2)) (star1 st)) fun _ _ _ q => q) hn hd (star1 st) (starAny fun e he => by rw [List.mem_singleton.mp he]; exact st2)) fun σ H Q q => by
    refine xE.mono (x_op2 q) fun v H1 h => h.mono fun u H2 ⟨d, e, z, r, r2, ez, m⟩ => ⟨[d, e], z, .cons r (.cons r2 .nil), ez, m⟩
theorem blt2_ok {f : Str} {o : Op} {a b : Expr} {x y : Ex} {p pos : Pos} (h : blt2 f = some o) (ok : Ok X Δ Γ) (hg : Gl X f) (hb : Δ.bl.contains f = true) (hk : okNm f = true) (ha : PE X a (xE Γ X.K x)) (hb' : PE X b (xE Γ X.K y)) (st : noStar a = true) (st2 : noStar b = true) : PE X (.Call (.Name f p) [a, b] [] pos) (xE Γ X.K (.op o [x, y])) := by
  have hm := ok.bl f hb
  obtain ⟨hd, _, hn⟩ := okNm_of hk
  unfold blt2 at h
  rcases ite_cases h with ⟨e, h⟩ | ⟨_, h⟩
  · subst e; cases Option.some.inj h; exact cs_pe2 (cs_max2 ok.calm) hg hm bt_max ha hb' st st2 hn hd
  rcases ite_cases h with ⟨e, h⟩ | ⟨_, h⟩
  · subst e; cases Option.some.inj h; exact cs_pe2 (cs_min2 ok.calm) hg hm bt_min ha hb' st st2 hn hd
  cases h
theorem cs_pe3 {id : String} {f : Str} {o : Op} {a b c : Expr} {x y w : Ex} {p pos : Pos} (hc : CS X (.builtin id) (opD o)) (hg : Gl X f) (hm : X.mg f = none) (hv : bootBuiltins f = some (.builtin id)) (ha : PE X a (xE Γ X.K x)) (hb : PE X b (xE Γ X.K y)) (hw : PE X c (xE Γ X.K w)) (st : noStar a = true) (st2 : noStar b = true) (st3 : noStar c = true) (hn : f ≠ "__name__") (hd : (f == ("__debug__" : Str)) = false) :
    PE X (.Call (.Name f p) [a, b, c] [] pos) (xE Γ X.K (.op o [x, y, w])) :=
  PEi (pe_callB hc hg hm hv (PAi (pa_cons ha (pa_cons hb (pa_cons hw pa_nil (star1 st3)) (star1 st2)) (star1 st)) fun _ _ _ q => q) hn hd (star1 st) (starAny fun e he => by
    rcases List.mem_cons.mp he with rfl | he
    · exact st2
    · rw [List.mem_singleton.mp he]; exact st3)) fun σ H Q q => by
    exact xE.mono (x_op3 q) fun v H1 h => h.mono fun u H2 h => h.mono fun t H3 ⟨ds, z, r, ez, m⟩ => ⟨ds, z, r, ez, m⟩
theorem blt3_ok {f : Str} {o : Op} {a b c : Expr} {x y w : Ex} {p pos : Pos} (h : blt3 f = some o) (ok : Ok X Δ Γ) (hg : Gl X f) (hb : Δ.bl.contains f = true) (hk : okNm f = true) (ha : PE X a (xE Γ X.K x)) (hb' : PE X b (xE Γ X.K y)) (hw : PE X c (xE Γ X.K w)) (st : noStar a = true) (st2 : noStar b = true) (st3 : noStar c = true) : PE X (.Call (.Name f p) [a, b, c] [] pos) (xE Γ X.K (.op o [x, y, w])) := by
  have hm := ok.bl f hb
  obtain ⟨hd, _, hn⟩ := okNm_of hk
  unfold blt3 at h
  rcases ite_cases h with ⟨e, h⟩ | ⟨_, h⟩
  · subst e; cases Option.some.inj h; exact cs_pe3 (cs_max3 ok.calm) hg hm bt_max ha hb' hw st st2 st3 hn hd
  rcases ite_cases h with ⟨e, h⟩ | ⟨_, h⟩
  · subst e; cases Option.some.inj h; exact cs_pe3 (cs_min3 ok.calm) hg hm bt_min ha hb' hw st st2 st3 hn hd
  cases h
theorem tyN_ok {t : Str} {nm : String} (h : tyN t = some nm) : bootBuiltins t = some (.type nm) := by
  unfold tyN at h
  rcases ite_cases h with ⟨e, h⟩ | ⟨_, h⟩
  · subst e; cases Option.some.inj h; exact bt_int
  rcases ite_cases h with ⟨e, h⟩ | ⟨_, h⟩
  · subst e; cases Option.some.inj h; exact bt_bool
  rcases ite_cases h with ⟨e, h⟩ | ⟨_, h⟩
  · subst e; cases Option.some.inj h; exact bt_str
  rcases ite_cases h with ⟨e, h⟩ | ⟨_, h⟩
  · subst e; cases Option.some.inj h; exact bt_tuple
  rcases ite_cases h with ⟨e, h⟩ | ⟨_, h⟩
  · subst e; cases Option.some.inj h; exact bt_list
  rcases ite_cases h with ⟨e, h⟩ | ⟨_, h⟩
  · subst e; cases Option.some.inj h; exact bt_dict
  cases h
theorem isi_ok {f t : Str} {nm : String} {a : Expr} {x : Ex} {p p2 pos : Pos} (hf : f = "isinstance") (ht : tyN t = some nm) (ok : Ok X Δ Γ) (hg : Gl X f) (hb : Δ.bl.contains f = true) (hg2 : Gl X t) (hb2 : Δ.bl.contains t = true) (hk2 : okNm t = true) (ha : PE X a (xE Γ X.K x)) (st : noStar a = true) :
    PE X (.Call (.Name f p) [a, .Name t p2] [] pos) (xE Γ X.K (.op (.isi nm) [x])) := by
  subst hf
  obtain ⟨hd, _, hn⟩ := okNm_of hk2
  refine PEi (pe_callB (cs_isi (n := nm)) hg (ok.bl _ hb) bt_isi (pa_cons ha (pa_cons (pe_bltn (v := .ty nm) hg2 (ok.bl _ hb2) (tyN_ok ht) rfl hn hd) pa_nil) (star1 st)) (by decide) (by decide) (star1 st) rfl) fun σ H Q q => ?_
  exact xE.mono (x_op1 q) fun v H1 ⟨d, z, r, e, m⟩ => ⟨v, d, z, rfl, r, e, m⟩
theorem isi_sp {K : PySem.W.Frag} {H : Hp} {v : V} {d z : D} {n : String} (r : Rd K H v d) (e : isiD n [d] = some z) : ∃ t b, tyName d = some t ∧ z = B b ∧ PySem.W.kitOne K (.type t) (.type n) = some b := by
  unfold isiD at e
  cases e1 : tyName d with
  | none => simp only [e1] at e; cases e
  | some t =>
    simp only [e1] at e
    cases e2 : isiB t n with
    | none => rw [e2] at e; cases e
    | some b =>
      rw [e2] at e; cases e
      exact ⟨t, b, rfl, rfl, kit_ty (isi_kit (tyName_mem e1) e2)⟩
theorem isi2_ok {f t u : Str} {nm nm2 : String} {a : Expr} {x : Ex} {p p2 p3 p4 pos : Pos} {k : Nat} (hf : f = "isinstance") (ht : tyN t = some nm) (hu : tyN u = some nm2) (ok : Ok X Δ Γ) (hg : Gl X f) (hb : Δ.bl.contains f = true) (hg2 : Gl X t) (hb2 : Δ.bl.contains t = true) (hk2 : okNm t = true) (hg3 : Gl X u) (hb3 : Δ.bl.contains u = true) (hk3 : okNm u = true) (ha : PE X a (xE Γ X.K x)) (st : noStar a = true) :
    PE X (.Call (.Name f p) [a, .Tuple [.Name t p2, .Name u p3] k p4] [] pos) (xE Γ X.K (.op (.isi2 nm nm2) [x])) := by
  subst hf
  obtain ⟨hd, _, hn⟩ := okNm_of hk2
  obtain ⟨hd3, _, hn3⟩ := okNm_of hk3
  refine PEi (pe_callB call_isiT hg (ok.bl _ hb) bt_isi (pa_cons ha (pa_cons (pe_tup (pa_cons (pe_bltn (v := .ty nm) hg2 (ok.bl _ hb2) (tyN_ok ht) rfl hn hd) (pa_cons (pe_bltn (v := .ty nm2) hg3 (ok.bl _ hb3) (tyN_ok hu) rfl hn3 hd3) pa_nil))) pa_nil) (star1 st)) (by decide) (by decide) (star1 st) rfl) fun σ H Q q => ?_
  refine xE.mono (x_op1 q) fun v H1 ⟨d, z, r, e, m⟩ => ?_
  change isi2D nm nm2 [d] = some z at e
  unfold isi2D at e
  split at e
  · rename_i b1 b2 e1 e2
    cases e
    obtain ⟨t1, c1, h1, h2, h3⟩ := isi_sp r e1
    obtain ⟨t2, c2, h4, h5, h6⟩ := isi_sp r e2
    refine ⟨by rw [sizeLine_eq]; exact Nat.le_of_ble_eq_true rfl, fun p hp => ?_⟩
    cases h2
    cases h5
    rw [h1] at h4
    cases h4
    have fr : Fr H1 (upd H1 p (.tup [.ty nm, .ty nm2])) [] := Fr.new hp
    have r2 : Rd X.K (upd H1 p (.tup [.ty nm, .ty nm2])) v d := by
      obtain ⟨G, o⟩ := r
      exact ⟨G, o.fr fr .nil fun _ _ z => nomatch z⟩
    refine ⟨v, p, [.ty nm, .ty nm2], .type t1, [.type nm, .type nm2], b1 || b2, rfl, upd_same, .cons (.ty nm) (.cons (.ty nm2) .nil), tyOf r2 h1, kitAny_cons h3 (fun e => kitAny_cons h6 (fun e' => ?_) fun e' => ?_) fun e => ?_, m _ _ ⟨[], .p (.bl _), ND.nil, fun _ z => (nomatch z), fr⟩⟩
    · subst e e'; exact kitAny_nil
    · subst e e'; rfl
    · subst e; rfl
  · cases e
theorem rng_ok {a b : Int} (h : rngOk a b = true) (hl : (b - a).toNat ≤ LIM) : RgOk a b := by
  obtain ⟨h1, h2, h3, h4⟩ := rngOk_of h
  refine ⟨h1, h2, h3, h4, ?_⟩
  show _ ≤ 16777216
  exact hl
theorem rgV_rts {K : PySem.W.Frag} {H : Hp} (a b : Int) : RTs K H (rgV a b) (rngL a b) := by
  have key : ∀ n : Nat, ∀ l : List Nat, RTs K H (l.map fun i => V.int (a + (i : Nat))) (l.map fun (i : Nat) => T.int (a + i)) := fun n l => by
    induction l with
    | nil => exact .nil
    | cons i l ih => exact .cons (.int _) ih
  exact key 0 _
theorem lrng1_ok {a : Expr} {x : Ex} {p p2 pos pos2 : Pos} (ok : Ok X Δ Γ) (hg : Gl X "list") (hb : Δ.bl.contains "list" = true) (hg2 : Gl X "range") (hb2 : Δ.bl.contains "range" = true) (ha : PE X a (xE Γ X.K x)) (st : noStar a = true) :
    PE X (.Call (.Name "list" p) [.Call (.Name "range" p2) [a] [] pos2] [] pos) (xE Γ X.K (.op .lrng1 [x])) := by
  refine PEi (pe_listRg ok.calm hg (ok.bl _ hb) (prg_1 hg2 (ok.bl _ hb2) ha (star1 st)) rfl) fun σ H Q q => ?_
  refine xE.mono (x_op1 q) fun v H1 ⟨d, z, r, e, m⟩ => ?_
  change lrng1D [d] = some z at e
  unfold lrng1D at e
  split at e
  · rename_i b heq
    cases heq
    split at e
    · rename_i hk
      cases e
      simp only [Bool.and_eq_true, decide_eq_true_eq] at hk
      exact ⟨b, r.int, rng_ok hk.1 (by rw [Int.sub_zero]; exact hk.2), fun c hc => m _ _ (.list hc (rgV_rts 0 b))⟩
    · cases e
  · cases e
theorem lrng2_ok {a b : Expr} {x y : Ex} {p p2 pos pos2 : Pos} (ok : Ok X Δ Γ) (hg : Gl X "list") (hb : Δ.bl.contains "list" = true) (hg2 : Gl X "range") (hb2 : Δ.bl.contains "range" = true) (ha : PE X a (xE Γ X.K x)) (hb' : PE X b (xE Γ X.K y)) (st : noStar a = true) (st2 : noStar b = true) :
    PE X (.Call (.Name "list" p) [.Call (.Name "range" p2) [a, b] [] pos2] [] pos) (xE Γ X.K (.op .lrng2 [x, y])) := by
  refine PEi (pe_listRg ok.calm hg (ok.bl _ hb) (prg_2 hg2 (ok.bl _ hb2) ha hb' (star1 st) (star1 st2) (starAny fun e he => by rw [List.mem_singleton.mp he]; exact st2)) rfl) fun σ H Q q => ?_
  refine xE.mono (x_op2 q) fun v H1 h => h.mono fun u H2 ⟨d, e2, z, r, r2, e, m⟩ => ?_
  change lrng2D [d, e2] = some z at e
  unfold lrng2D at e
  split at e
  · rename_i a' b' heq
    cases heq
    split at e
    · rename_i hk
      cases e
      simp only [Bool.and_eq_true, decide_eq_true_eq] at hk
      exact ⟨a', b', r.int, r2.int, rng_ok hk.1 hk.2, fun c hc => m _ _ (.list hc (rgV_rts a' b'))⟩
    · cases e
  · cases e
/-- tuple(range(..)) -/
def tTupF (te : L2.St → Hp → (Int → Int → Hp → Prop) → Prop) : TE := fun σ H Q => te σ H fun a b H1 => RgOk a b ∧ ∀ q (o : Obj), H1 q = none → o.dict = none → Q (.ref q) (upd H1 q (.frz o (.tup (rgV a b))))
theorem pe_tupRF {e : Expr} {te : L2.St → Hp → (Int → Int → Hp → Prop) → Prop} {p pos : Pos} (hc : X.calm = true) (hg : Gl X "tuple") (hm : X.mg "tuple" = none) (he : PRg X e te) (na : starEach [e] X.env = [(false, eval e X.env)]) : PE X (.Call (.Name "tuple" p) [e] [] pos) (tTupF te) := by
  refine ⟨fun pins s σ H Q I h => Call_ (ld_blt I hg hm bt_tuple (PyProof.Rows.callWith_type1 (args_cons (thn (he pins s σ H _ I h) fun x s1 ⟨r, a, b, t, u, v, H1, ex, hr, I1, ok, q⟩ => args_nil ?_) na) na))⟩
  subst ex
  have ok' := ok
  obtain ⟨b1, b2, b3, b4, b5⟩ := ok'
  refine call_tuple_range (n := (b - a).toNat) (I1.ok.hd hc) hr (small_one b1 b2 b3 b4) (rangeSize_nat a b) b5 fun h1 tk acc hk hi => ?_
  have I2 : Inv X pins σ H1 { s1 with heap := h1, toks := tk } := I1.kept hk
  have hgt := Heap.get?_push_size h1 (o := { cls := .type "tuple", data := .seq acc }) rfl
  refine ⟨.ref h1.objs.size, upd H1 h1.objs.size (.frz { cls := .type "tuple", data := .seq acc } (.tup (rgV a b))), I2.laid (t' := tk) (fun c o e => Heap.get?_push_of_some _ e) (Nat.le_refl _) ⟨hgt, ?_, acc.toList, vals_rg hi, ?_⟩, rfl, q _ _ (I2.hok.fresh (Nat.le_refl _)) rfl⟩
  · rw [rgV_length, sizeLine_eq]; omega
  · rw [Array.toArray_toList]; exact ⟨_, hgt, rfl, 0, rfl⟩
theorem trng1_ok {a : Expr} {x : Ex} {p p2 pos pos2 : Pos} (ok : Ok X Δ Γ) (hg : Gl X "tuple") (hb : Δ.bl.contains "tuple" = true) (hg2 : Gl X "range") (hb2 : Δ.bl.contains "range" = true) (ha : PE X a (xE Γ X.K x)) (st : noStar a = true) :
    PE X (.Call (.Name "tuple" p) [.Call (.Name "range" p2) [a] [] pos2] [] pos) (xE Γ X.K (.op .trng1 [x])) := by
  refine PEi (pe_tupRF ok.calm hg (ok.bl _ hb) (prg_1 hg2 (ok.bl _ hb2) ha (star1 st)) rfl) fun σ H Q q => ?_
  refine xE.mono (x_op1 q) fun v H1 ⟨d, z, r, e, m⟩ => ?_
  change trng1D [d] = some z at e
  unfold trng1D at e
  split at e
  · rename_i b heq
    cases heq
    split at e
    · rename_i hk
      cases e
      simp only [Bool.and_eq_true, decide_eq_true_eq] at hk
      exact ⟨b, r.int, rng_ok hk.1 (by rw [Int.sub_zero]; exact hk.2), fun c o hc ho => m _ _ (.tup hc ho (rgV_rts 0 b))⟩
    · cases e
  · cases e
theorem trng2_ok {a b : Expr} {x y : Ex} {p p2 pos pos2 : Pos} (ok : Ok X Δ Γ) (hg : Gl X "tuple") (hb : Δ.bl.contains "tuple" = true) (hg2 : Gl X "range") (hb2 : Δ.bl.contains "range" = true) (ha : PE X a (xE Γ X.K x)) (hb' : PE X b (xE Γ X.K y)) (st : noStar a = true) (st2 : noStar b = true) :
    PE X (.Call (.Name "tuple" p) [.Call (.Name "range" p2) [a, b] [] pos2] [] pos) (xE Γ X.K (.op .trng2 [x, y])) := by
  refine PEi (pe_tupRF ok.calm hg (ok.bl _ hb) (prg_2 hg2 (ok.bl _ hb2) ha hb' (star1 st) (star1 st2) (starAny fun e he => by rw [List.mem_singleton.mp he]; exact st2)) rfl) fun σ H Q q => ?_
  refine xE.mono (x_op2 q) fun v H1 h => h.mono fun u H2 ⟨d, e2, z, r, r2, e, m⟩ => ?_
  change trng2D [d, e2] = some z at e
  unfold trng2D at e
  split at e
  · rename_i a' b' heq
    cases heq
    split at e
    · rename_i hk
      cases e
      simp only [Bool.and_eq_true, decide_eq_true_eq] at hk
      exact ⟨a', b', r.int, r2.int, rng_ok hk.1 hk.2, fun c o hc ho => m _ _ (.tup hc ho (rgV_rts a' b'))⟩
    · cases e
  · cases e
/-- what is walked -/
theorem iter_ok {f : Expr → Option Ex} {sc : Scope} {tg iter : Expr} {k : Nat} {src : List Ex} (ok : Ok X Δ Γ) (hs : X.env.scope = sc) (ih : ∀ e x, f e = some x → Good X Γ e x) (st : ∀ e x, f e = some x → noStar e = true) (h : iterS Δ sc f (isTupE tg) iter = some (k, src)) :
    PI X tg iter (xI Γ X.K k src) := by
  have dflt : ∀ {e : Expr}, (f e).map (fun a => (0, [a])) = some (k, src) → PI X tg e (xI Γ X.K k src) := fun {e} h => by
    cases e1 : f e with
    | none => rw [e1] at h; cases h
    | some x => rw [e1] at h; cases h; exact pi_seq (ih e x e1).1
  have arg1 : ∀ {a : Expr} {x : Ex}, f a = some x → PA X [a] (xL Γ X.K [x]) := fun {a x} e => PAi (pa_cons (ih a x e).1 pa_nil (star1 (st a x e))) fun _ _ _ q => xL_one q
  have arg2 : ∀ {a b : Expr} {x y : Ex}, f a = some x → f b = some y → PA X [a, b] (xL Γ X.K [x, y]) := fun {a b x y} e e2 => PAi (pa_cons (ih a x e).1 (pa_cons (ih b y e2).1 pa_nil (star1 (st b y e2))) (star1 (st a x e))) fun _ _ _ q => xL_two q
  have any1 : ∀ {b : Expr} {y : Ex} {pos : Pos}, f b = some y → (backTo pos (starEach [b] X.env)).any (·.1) = false := fun {b y pos} e => starAny fun e' he => by rw [List.mem_singleton.mp he]; exact st b y e
  unfold iterS at h
  split at h
  · rename_i x p es pos
    split at h
    · rename_i hc
      simp only [Bool.and_eq_true, decide_eq_true_eq] at hc
      obtain ⟨⟨⟨hg, _⟩, hb⟩, rfl⟩ := hc
      split at h
      · rename_i a
        cases e1 : f a with
        | none => rw [e1] at h; cases h
        | some x => rw [e1] at h; cases h; exact pi_range1 (glB_of hs hg) (ok.bl _ hb) (arg1 e1) (star1 (st a _ e1))
      · rename_i a b
        split at h
        · rename_i x y e1 e2
          cases h
          exact pi_range2 (glB_of hs hg) (ok.bl _ hb) (arg2 e1 e2) (by rw [star1 (st a _ e1), star1 (st b _ e2)]; rfl) (star1 (st b _ e2))
        · cases h
      · cases h
    split at h
    · rename_i hc
      simp only [Bool.and_eq_true, decide_eq_true_eq] at hc
      obtain ⟨⟨⟨⟨hg, _⟩, hb⟩, ht⟩, rfl⟩ := hc
      cases tg <;> first | cases ht | skip
      split at h
      · rename_i a
        cases e1 : f a with
        | none => rw [e1] at h; cases h
        | some x => rw [e1] at h; cases h; exact pi_enumG (glB_of hs hg) (ok.bl _ hb) (arg1 e1) (star1 (st a _ e1))
      · cases h
    split at h
    · rename_i hc
      simp only [Bool.and_eq_true, decide_eq_true_eq] at hc
      obtain ⟨⟨⟨⟨hg, _⟩, hb⟩, ht⟩, rfl⟩ := hc
      cases tg <;> first | cases ht | skip
      split at h
      · rename_i a b
        split at h
        · rename_i x y e1 e2
          cases h
          exact pi_zipG (glB_of hs hg) (ok.bl _ hb) (arg2 e1 e2) (star1 (st a _ e1)) (any1 e2)
        · cases h
      · cases h
    exact dflt h
  · cases h
  · exact dflt h
theorem call_ok {f : Str} {args : List Expr} {k : Nat} {xs : List Ex} {p pos : Pos} (ok : Ok X Δ Γ) (hg : Gl X f) (hk : okNm f = true) (hf : ixOf f Δ.fs = some k) (ha : PA X args (xL Γ X.K xs)) (st : ∀ e ∈ args, noStar e = true) (hz : args = [] → xs = []) : PE X (.Call (.Name f p) args [] pos) (xE Γ X.K (.call k xs)) := by
  obtain ⟨c, hc, ⟨l⟩⟩ := ok.fs k f (ixOf_get hf)
  obtain ⟨hd, _, _⟩ := okNm_of hk
  cases args with
  | nil =>
    have e := hz rfl
    subst e
    refine PEi (pe_call0 (E := fun _ _ _ => False) l.fn l.room hg l.glob l.kp l.bi .nil passN hd) fun σ H Q q => ?_
    obtain ⟨c', h1, h2⟩ := xL_nil (x_call (E := fun _ _ _ => False) q)
    rw [hc] at h1
    cases h1
    exact h2
  | cons a as =>
    refine PEi (pe_call (E := fun _ _ _ => False) l.fn l.room hg l.glob l.kp l.bi .nil passN ha hd (star1 (st a List.mem_cons_self)) (starAny fun e he => st e (List.mem_cons_of_mem _ he))) fun σ H Q q => ?_
    have := x_call (E := fun _ _ _ => False) q
    obtain ⟨β, q', ρ, F, rs, ρ', pr, e, kk⟩ := this
    refine ⟨β, q', ρ, F, rs, ρ', pr, e, fun vs H' F' G h => ?_⟩
    obtain ⟨c', h1, h2⟩ := kk vs H' F' G h
    rw [hc] at h1
    cases h1
    rw [List.append_nil]
    exact h2
end
end PF

set_option Elab.async false
set_option linter.all false
set_option maxRecDepth 100000
/-! PF20: every expression of the text that is read answers as the interpreter says -/
namespace PF
open PySem PySem.Spec PyProof.Rows L2
section
variable {X : Cx} {Δ : Ctx} {Γ : List CT}
/-! ### slices -/
theorem sl_parts {K : PySem.W.Frag} {σ : L2.St} {H : Hp} {lo hi : Bool} {xs : List Ex} {Q : VK} (h : xE Γ K (.op (.slice lo hi) xs) σ H Q) : xL Γ K xs σ H fun vs H1 => ∃ ds z, Rds K H1 vs ds ∧ sliceD lo hi ds = some z ∧ Meet K H1 z Q := x_op h
theorem sl00 {a : Expr} {x : Ex} {p2 pos : Pos} (ha : PE X a (xE Γ X.K x)) : PE X (.Subscript a (.Slice none none none p2) pos) (xE Γ X.K (.op (.slice false false) [x])) :=
  PEi (pe_slice slR ha po_none po_none) fun σ H Q q => xE.mono (xL_one (sl_parts q)) fun v H1 ⟨ds, z, r, e, m⟩ => by
    cases r with
    | cons r1 t => cases t; exact s_slice e r1 m
theorem sl10 {a l : Expr} {x y : Ex} {p2 pos : Pos} (ha : PE X a (xE Γ X.K x)) (hl : PE X l (xE Γ X.K y)) : PE X (.Subscript a (.Slice (some l) none none p2) pos) (xE Γ X.K (.op (.slice true false) [x, y])) :=
  PEi (pe_slice slR ha (po_some hl) po_none) fun σ H Q q => xE.mono (xL_two (sl_parts q)) fun v H1 h => h.mono fun u H2 ⟨ds, z, r, e, m⟩ => by
    cases r with
    | cons r1 t =>
      cases t with
      | cons r2 t =>
        cases t
        unfold sliceD at e
        split at e
        · rename_i heq; cases heq
        · rename_i h1 _ heq
          cases heq
          exact ⟨_, r2.int, s_slice e r1 m⟩
        · rename_i h1 _ heq; cases h1
        · rename_i heq; cases heq
        · cases e
theorem sl01 {a l : Expr} {x y : Ex} {p2 pos : Pos} (ha : PE X a (xE Γ X.K x)) (hl : PE X l (xE Γ X.K y)) : PE X (.Subscript a (.Slice none (some l) none p2) pos) (xE Γ X.K (.op (.slice false true) [x, y])) :=
  PEi (pe_slice slR ha po_none (po_some hl)) fun σ H Q q => xE.mono (xL_two (sl_parts q)) fun v H1 h => h.mono fun u H2 ⟨ds, z, r, e, m⟩ => by
    cases r with
    | cons r1 t =>
      cases t with
      | cons r2 t =>
        cases t
        unfold sliceD at e
        split at e
        · rename_i heq; cases heq
        · rename_i h1 _ heq; cases h1
        · rename_i h1 _ heq
          cases heq
          exact ⟨_, r2.int, s_slice e r1 m⟩
        · rename_i heq; cases heq
        · cases e
theorem x_slc {K : PySem.W.Frag} {σ : L2.St} {H : Hp} {a l h : Ex} {Q : VK} (hh : xE Γ K (.slc a l h) σ H Q) : xE Γ K a σ H fun x H1 => xE Γ K l σ H1 fun y H2 => ∃ i, y = .int i ∧ xE Γ K h σ H2 fun w H3 => ∃ j, w = .int j ∧ ∃ d z, Rd K H3 x d ∧ sliceV d (some i) (some j) = some z ∧ Meet K H3 z Q := by
  obtain ⟨β, q, ρ, F, x0, ρ', p, e, k⟩ := hh
  simp only [ev] at e
  split at e
  · rename_i r ρ1 e1
    split at e
    · rename_i r2 ρ2 e2
      split at e
      · rename_i i e3
        split at e
        · rename_i r3 ρ3 e4
          split at e
          · rename_i d j e5 e6
            cases e7 : sliceV d (some i) (some j) with
            | none => rw [e7] at e; cases e
            | some z =>
              rw [e7] at e; cases e
              refine ⟨β, q, ρ, F, r, ρ1, p, e1, fun vx H1 F1 G1 h1 => ⟨β, q || lent r, ρ1, F1, r2, ρ2, h1.pre p.nb, e2, fun vy H2 F2 G2 h2 => ⟨i, (h2.rr.rd h2.eo e3).int, ?_⟩⟩⟩
              have p2 := h1.pre p.nb
              refine ⟨β, q || lent r, ρ2, F2, r3, ρ', h2.preS p2.nb, e4, fun vw H3 F3 G3 h3 => ⟨j, (h3.rr.rd h3.eo e6).int, d, z, ?_, e7, fun v5 H5 n5 => ?_⟩⟩
              · have h4 := h2.then_ h3
                exact (h1.rr.behind h1.nd h1.eo.mt h4.st).rd h4.eo e5
              · have h4 := h2.then_ h3
                have h5 : PstL K β (q || lent r) σ ρ1 H1 F1 [r3] ρ' [vw] H3 F3 (G3 ++ []) := ⟨h4.eo, .cons h4.rr .nil, by rw [List.append_nil]; exact h4.nd, by rw [List.append_nil]; exact h4.st, by rw [List.append_nil]; exact h4.nq, h4.le⟩
                obtain ⟨G', h6⟩ := (PstL.cons h1 h5).new n5
                exact k _ _ _ _ h6
          · cases e
        · cases e
      · cases e
    · cases e
  · cases e
theorem sl11 {a l u : Expr} {x y z : Ex} {p2 pos : Pos} (ha : PE X a (xE Γ X.K x)) (hl : PE X l (xE Γ X.K y)) (hu : PE X u (xE Γ X.K z)) : PE X (.Subscript a (.Slice (some l) (some u) none p2) pos) (xE Γ X.K (.slc x y z)) :=
  PEi (pe_slice slR ha (po_some hl) (po_some hu)) fun σ H Q q => (x_slc q).mono fun v H1 h => h.mono fun u H2 ⟨i, e, h⟩ => ⟨i, e, h.mono fun w H3 ⟨j, e, d, zz, r, ez, m⟩ => ⟨j, e, s_slice ez r m⟩⟩

theorem pt_ifx {c a b : Expr} {tA ta tb : TT} {pos : Pos} (hc : PT X c tA) (ha : PT X a ta) (hb : PT X b tb) : PT X (.IfExp c a b pos) (fun σ H Q => tA σ H fun k H1 => if k = true then ta σ H1 Q else tb σ H1 Q) := by
  refine ⟨fun pins s σ H Q I h => ?_⟩
  show wpAny _ X.A (do if ← isTrue c X.env (eval c X.env) then isTrue a X.env (eval a X.env) else isTrue b X.env (eval b X.env)) _ _ s
  refine wpAny_bind (thn (hc.run pins s σ H _ I h) fun k s1 ⟨H1, I1, q1⟩ => ?_)
  cases k with
  | true => exact ha.run pins s1 σ H1 Q I1 q1
  | false => exact hb.run pins s1 σ H1 Q I1 q1
theorem slots_own {Δ : Ctx} {sc : Scope} {e : Expr} {t : Tg} {own : List (Str × Nat)} (h : tgS Δ sc e = some (t, own)) : own.map (·.2) = t.own := by
  unfold tgS at h
  split at h
  · rename_i x p
    cases e1 : slotS Δ sc (.Name x p) with
    | none => rw [e1] at h; cases h
    | some y => rw [e1] at h; cases h; rfl
  · rename_i es k p
    cases e1 : slotsS Δ sc es with
    | none => rw [e1] at h; cases h
    | some l => rw [e1] at h; cases h; rfl
  · cases h
/-! ### the whole -/
theorem strip_ok (Δ : Ctx) (Γ : List CT) : ∀ (n : Nat) (sc : Scope) (X : Cx), Ok X Δ Γ → X.env.scope = sc → ∀ (e : Expr) (x : Ex), strip Δ n sc e = some x → Good X Γ e x := by
  intro n
  induction n with
  | zero => intro sc X ok hs e x h; cases h
  | succ n ih0 =>
    intro sc X ok hs e x h
    have ih := fun e x => ih0 sc X ok hs e x
    have st : ∀ e x, strip Δ n sc e = some x → noStar e = true := fun e x h => strip_star h
    simp only [strip] at h
    split at h
    · -- a constant
      rename_i c j pos
      refine good_val ?_ fun _ => rfl
      unfold cstS at h
      split at h
      · cases h; exact PEi pe_non fun _ _ _ q => x_cst q .non
      · cases h; exact PEi pe_bl fun _ _ _ q => x_cst q (.bl _)
      · cases h; exact PEi pe_int fun _ _ _ q => x_cst q (.int _)
      · cases h; exact PEi pe_str fun _ _ _ q => x_cst q (.str _)
      · cases h
    · -- a name
      rename_i y p
      refine good_val ?_ fun _ => rfl
      split at h
      · cases h
      · rename_i hk
        have hk : okNm y = true := by simpa using hk
        obtain ⟨hd, hcd, hn⟩ := okNm_of hk
        split at h
        · rename_i hv
          cases e1 : ixOf y Δ.N with
          | none => rw [e1] at h; cases h
          | some i =>
            rw [e1] at h; cases h
            exact PEi (pe_var (i := i) (by rw [ok.N]; exact ixOf_get e1) (by rw [hs]; exact visB_of hv) hd hcd) fun _ _ _ q => x_nm q
        · split at h
          · rename_i hg
            cases e1 : Δ.gs.lookup y with
            | none => rw [e1] at h; cases h
            | some t =>
              rw [e1] at h; cases h
              obtain ⟨u, v, h1, h2, h3⟩ := ok.gs y t e1
              exact PEi (pe_glob (glB_of hs hg) h1 h2 hd) fun _ H _ q => x_cst q (h3 H)
          · cases h
    · -- a op b
      rename_i a op b pos
      refine good_val ?_ fun _ => rfl
      split at h
      · rename_i o x y e1 e2 e3
        cases h
        exact PEi (pe_op (bin_ok e1) (ih a x e2).1 (ih b y e3).1) fun _ _ _ q => x_op2 q
      · cases h
    · -- not a
      rename_i a pos
      cases e1 : strip Δ n sc a with
      | none => rw [e1] at h; cases h
      | some x =>
        rw [e1] at h; cases h
        exact ⟨PEi (pe_notT (ih a x e1).1) fun _ _ _ q => x_not q, PTi (pt_not (ih a x e1).2) fun _ _ _ q => t_not q⟩
    · -- - a
      rename_i a pos
      refine good_val ?_ fun _ => rfl
      cases e1 : strip Δ n sc a with
      | none => rw [e1] at h; cases h
      | some x =>
        rw [e1] at h; cases h
        exact PEi (pe_un un_neg (ih a x e1).1) fun _ _ _ q => xE.mono (x_op1 q) fun v H1 ⟨d, z, r, e, m⟩ => s_neg e r m
    · -- and, or
      rename_i op vs pos
      cases e1 : optL (strip Δ n sc) vs with
      | none => rw [e1] at h; cases h
      | some xs =>
        rw [e1] at h
        have g := bool_ok (op := op) (pos := pos) ih e1 h
        exact ⟨g.1, g.2.pt⟩
    · -- a op b
      rename_i a op b pos
      split at h
      · cases h
      · rename_i hm
        have hm : behindInMarks op b = false := by simpa using hm
        split at h
        · rename_i x y e2 e3
          cases h
          have g : PE X (.Compare a [op] [b] pos) (xE Γ X.K (.op (cmpO op) [x, y])) := PEi (pe_cmpR (cmp_ok ok.un) (ih a x e2).1 (ih b y e3).1 hm) fun _ _ _ q => x_op2 q
          refine ⟨g, PTi (pt_cmpR (cmp_ok ok.un) (ih a x e2).1 (ih b y e3).1 hm) fun σ H Q q => ?_⟩
          exact x_op2 (t_bl (fun _ _ _ _ e => ev_cmp e) q)
        · cases h
    · -- a op b op c
      rename_i a o1 o2 b c pos
      split at h
      · cases h
      · rename_i hm
        have hm : lastMarks [o1, o2] [b, c] = false := by simpa using hm
        split at h
        · rename_i x y z e2 e3 e4
          cases h
          have key : ∀ σ H Q, xE Γ X.K (.chain (cmpO o1) (cmpO o2) x y z) σ H Q → tChain (fun x y H Q => ∃ d e z, Rd X.K H x d ∧ Rd X.K H y e ∧ opD (cmpO o1) [d, e] = some z ∧ Meet X.K H z Q) (fun x y H Q => ∃ d e z, Rd X.K H x d ∧ Rd X.K H y e ∧ opD (cmpO o2) [d, e] = some z ∧ Meet X.K H z Q) (xE Γ X.K x) (xE Γ X.K y) (xE Γ X.K z) σ H Q := fun σ H Q q =>
            (x_chain q).mono fun vx H1 h => h.mono fun vy H2 ⟨A, B', k, hx, hy, e, m⟩ => ⟨_, _, _, hx, hy, e, fun v H3 nv => by
              obtain ⟨e5, h6⟩ := m v H3 nv
              refine ⟨k, e5, ?_⟩
              cases k with
              | true => exact ite_tt ((show xE Γ X.K z σ H3 _ from h6).mono fun w H4 ⟨Z, zz, r1, r2, e7, m7⟩ => ⟨_, _, zz, r1, r2, e7, m7⟩)
              | false => exact ite_ff h6⟩
          refine ⟨PEi (pe_chain (cmp_ok ok.un) (cmp_ok ok.un) (ih a x e2).1 (ih b y e3).1 (ih c z e4).1 hm) key, PTi (pt_chain (cmp_ok ok.un) (cmp_ok ok.un) (ih a x e2).1 (ih b y e3).1 (ih c z e4).1 hm) fun σ H Q q => ?_⟩
          exact key σ H _ (t_bl (fun _ _ _ _ e => ev_chain e) q)
        · cases h
    · -- a if c else b
      rename_i c a b pos
      split at h
      · rename_i x y z e2 e3 e4
        cases h
        exact ⟨PEi (pe_ifExp (ih c x e2).2 (ih a y e3).1 (ih b z e4).1) fun _ _ _ q => x_ifx q, PTi (pt_ifx (ih c x e2).2 (ih a y e3).2 (ih b z e4).2) fun _ _ _ q => t_ifx q⟩
      · cases h
    · -- a tuple
      rename_i es k pos
      refine good_val ?_ fun _ => rfl
      cases e1 : optL (strip Δ n sc) es with
      | none => rw [e1] at h; cases h
      | some xs => rw [e1] at h; cases h; exact PEi (pe_tupF (pa_ok ih st e1)) fun _ _ _ q => x_tup q
    · -- a list
      rename_i es pos
      refine good_val ?_ fun _ => rfl
      cases e1 : optL (strip Δ n sc) es with
      | none => rw [e1] at h; cases h
      | some xs => rw [e1] at h; cases h; exact PEi (pe_lst (pa_ok ih st e1)) fun _ _ _ q => x_lst q
    · rename_i a p2 pos
      refine good_val ?_ fun _ => rfl
      cases e1 : strip Δ n sc a with
      | none => rw [e1] at h; cases h
      | some x => rw [e1] at h; cases h; exact sl00 (ih a x e1).1
    · rename_i a l p2 pos
      refine good_val ?_ fun _ => rfl
      split at h
      · rename_i x y e1 e2; cases h; exact sl10 (ih a x e1).1 (ih l y e2).1
      · cases h
    · rename_i a l p2 pos
      refine good_val ?_ fun _ => rfl
      split at h
      · rename_i x y e1 e2; cases h; exact sl01 (ih a x e1).1 (ih l y e2).1
      · cases h
    · rename_i a l u p2 pos
      refine good_val ?_ fun _ => rfl
      split at h
      · rename_i x y z e1 e2 e3; cases h; exact sl11 (ih a x e1).1 (ih l y e2).1 (ih u z e3).1
      · cases h
    · cases h
    · -- a[b]
      rename_i a b pos n1 n2 n3 n4 n5
      refine good_val ?_ fun _ => rfl
      split at h
      · rename_i x y e1 e2
        cases h
        exact PEi (pe_ix ix_seq (ih a x e1).1 (ih b y e2).1 (plainIx fun l u p e => n5 l u none p e)) fun _ _ _ q => x_idx q
      · cases h
    · -- a comprehension
      rename_i elt tg iter ifs scope pos
      refine good_val ?_ fun _ => rfl
      split at h
      · rename_i t own e1
        split at h
        · rename_i hb
          simp only [Bool.and_eq_true, decide_eq_true_eq] at hb
          split at h
          · rename_i k src cs x e2 e3 e4
            cases h
            have bo : BlkOk X.N X.env.scope scope own := blkOk_by (by rw [ok.N, hs]; exact hb.1)
            have hloc : ∀ x, locB scope x = true → Loc (relS scope X.env.scope) x := fun x hx => by
              rcases locB_of hx with z | z
              · exact .inl (lookup_relS_keep (by decide) z)
              · exact .inr (lookup_relS_keep (by decide) z)
            have hfn : ∀ x, locB scope x = true → ((scope.names.lookup x == some NameKind.cell) = true ∨ (relS scope X.env.scope).names.lookup x = some .local) := fun x hx => by
              rcases locB_of hx with z | z
              · exact .inr (lookup_relS_keep (by decide) z)
              · refine .inl ?_; rw [z]; rfl
            have sub := fun (s : Shared) (H : Hp) (C : Addr) (cl : List (Str × Addr)) (fp : List Addr) => ih0 (relS scope sc) (X.blk s H scope (compEnvC scope cl C X.env) fp) (ok.blk s H scope _ fp) (by rw [← hs]; rfl)
            refine PEi (pe_lc (g := gT X.K t) (tt := tT Γ X.K cs) (te := xE Γ X.K x) ok.calm ok.nd (iter_ok ok hs ih st e2) bo (fun s H C cl fp => ?_) (fun s H C cl fp => ?_) (fun s H C cl fp => (sub s H C cl fp elt x e4).1) (noSet e2 X.env)) fun σ H Q q => ?_
            · exact (tg_pg (X := X.blk s H scope (compEnvC scope cl C X.env) fp) ok.calm ok.N ok.nd e1 hloc hfn).1
            · cases ifs with
              | nil => cases e3; exact pts_nil
              | cons c r =>
                cases r with
                | cons _ _ => simp at hb
                | nil =>
                  simp only [optL] at e3
                  split at e3
                  · rename_i y ys h1 h2
                    cases h2
                    cases e3
                    exact pts_one (sub s H C cl fp c y h1).2
                  · cases e3
            · rw [slots_own e1]
              exact x_comp q
          · cases h
        · cases h
      · cases h
    · -- a call
      rename_i f p args pos
      refine good_val ?_ fun _ => rfl
      split at h
      · cases h
      · rename_i hgk
        have hgk : glB sc f = true ∧ okNm f = true := by simpa using hgk
        have hg := glB_of hs hgk.1
        split at h
        · rename_i k e1
          cases e2 : optL (strip Δ n sc) args with
          | none => rw [e2] at h; cases h
          | some xs =>
            rw [e2] at h; cases h
            exact call_ok ok hg hgk.2 e1 (pa_ok ih st e2) (all_star st e2) fun e => by subst e; cases e2; rfl
        · split at h
          · cases h
          · rename_i hb
            have hb : Δ.bl.contains f = true := by simpa using hb
            split at h
            · rename_i g p2 rs pos2
              split at h
              · rename_i hc
                obtain ⟨rfl, rfl, hg2, hb2⟩ := hc
                split at h
                · rename_i a
                  cases e2 : strip Δ n sc a with
                  | none => rw [e2] at h; cases h
                  | some x => rw [e2] at h; cases h; exact lrng1_ok ok hg hb (glB_of hs hg2) hb2 (ih a x e2).1 (st a x e2)
                · rename_i a b
                  split at h
                  · rename_i x y e2 e3
                    cases h
                    exact lrng2_ok ok hg hb (glB_of hs hg2) hb2 (ih a x e2).1 (ih b y e3).1 (st a x e2) (st b y e3)
                  · cases h
                · cases h
              split at h
              · rename_i hc
                obtain ⟨rfl, rfl, hg2, hb2⟩ := hc
                split at h
                · rename_i a
                  cases e2 : strip Δ n sc a with
                  | none => rw [e2] at h; cases h
                  | some x => rw [e2] at h; cases h; exact trng1_ok ok hg hb (glB_of hs hg2) hb2 (ih a x e2).1 (st a x e2)
                · rename_i a b
                  split at h
                  · rename_i x y e2 e3
                    cases h
                    exact trng2_ok ok hg hb (glB_of hs hg2) hb2 (ih a x e2).1 (ih b y e3).1 (st a x e2) (st b y e3)
                  · cases h
                · cases h
              · split at h
                · rename_i o x e2 e3
                  cases h
                  exact blt1_ok e2 ok hg hb hgk.2 (ih _ x e3).1 (st _ x e3)
                · cases h
            · rename_i a _
              split at h
              · rename_i o x e2 e3
                cases h
                exact blt1_ok e2 ok hg hb hgk.2 (ih _ x e3).1 (st _ x e3)
              · cases h
            · rename_i a b
              split at h
              · rename_i hf
                split at h
                · rename_i t p2
                  split at h
                  · rename_i hc
                    simp only [Bool.and_eq_true] at hc
                    split at h
                    · rename_i x nm e2 e3
                      cases h
                      exact isi_ok hf e3 ok hg hb (glB_of hs hc.1.1) hc.2 hc.1.2 (ih a x e2).1 (st a x e2)
                    · cases h
                  · cases h
                · rename_i t p2 u p3 k p4
                  split at h
                  · rename_i hc
                    simp only [Bool.and_eq_true] at hc
                    split at h
                    · rename_i x nm nm2 e2 e3 e4
                      cases h
                      exact isi2_ok hf e3 e4 ok hg hb (glB_of hs hc.1.1.1) hc.1.2 hc.1.1.2 (glB_of hs hc.2.1.1) hc.2.2 hc.2.1.2 (ih a x e2).1 (st a x e2)
                    · cases h
                  · cases h
                · cases h
              · split at h
                · rename_i o x y e2 e3 e4
                  cases h
                  exact blt2_ok e2 ok hg hb hgk.2 (ih a x e3).1 (ih b y e4).1 (st a x e3) (st b y e4)
                · cases h
            · rename_i a b c
              split at h
              · rename_i o x y w e2 e3 e4 e5
                cases h
                exact blt3_ok e2 ok hg hb hgk.2 (ih a x e3).1 (ih b y e4).1 (ih c w e5).1 (st a x e3) (st b y e4) (st c w e5)
              · cases h
            · cases h
    · -- a method's call
      rename_i o m apos a cpos
      refine good_val ?_ fun _ => rfl
      split at h
      · cases h
      · rename_i hc
        have hc : (apos.endLine == cpos.line) = true ∧ plainRecv o = true := by simpa using hc
        split at h
        · rename_i k x y e1 e2 e3
          cases h
          rcases ite_cases e1 with ⟨e, h⟩ | ⟨_, h⟩
          · subst e
            cases h
            exact PEi (pe_mF (mf_index ok.un) (ih o x e2).1 (ih a y e3).1 (attrBase hc.2) hc.1 (star1 (st a y e3))) fun σ H Q q =>
              (x_mth q).mono fun v H1 ⟨T', ty, h⟩ => ⟨T', ty, h.mono fun w H2 ⟨d, k, z, td, r1, r2, ez, mm⟩ => ⟨w, d, k, z, rfl, td, r1, r2, ez, mm⟩⟩
          · rcases ite_cases h with ⟨e, h⟩ | ⟨_, h⟩
            · subst e
              cases h
              exact PEi (pe_mF (mf_count ok.un) (ih o x e2).1 (ih a y e3).1 (attrBase hc.2) hc.1 (star1 (st a y e3))) fun σ H Q q =>
                (x_mth q).mono fun v H1 ⟨T', ty, h⟩ => ⟨T', ty, h.mono fun w H2 ⟨d, k, z, td, r1, r2, ez, mm⟩ => ⟨w, d, k, z, rfl, td, r1, r2, ez, mm⟩⟩
            · cases h
        · cases h
    · cases h
end
end PF

set_option Elab.async false
set_option linter.all false
set_option maxRecDepth 100000
/-! PF21: statements -/
namespace PF
open PySem PySem.Spec PyProof.Rows L2
structure PstB (K : PySem.W.Frag) (β : List Bool) (σ : L2.St) (H : Hp) (F : List Addr) (is : List Nat) (ρ' : List S) (σ' : L2.St) (H' : Hp) (F' : List Addr) : Prop where
  eo : EO K H' β σ' ρ' F'
  nd : ND F'
  st : Step false H F H' F'
  bd : Bd σ σ' is
structure PstR (K : PySem.W.Frag) (β : List Bool) (σ : L2.St) (H : Hp) (F : List Addr) (is : List Nat) (d : D) (ρ' : List S) (v : V) (σ' : L2.St) (H' : Hp) (F' G : List Addr) : Prop where
  eo : EO K H' β σ' ρ' F'
  ow : OW K H' v d G
  nd : ND (F' ++ G)
  st : Step false H F H' (F' ++ G)
  bd : Bd σ σ' is
/-- what is wanted behind an end -/
def MO (D : Ends) (K : PySem.W.Frag) (β : List Bool) (σ : L2.St) (H : Hp) (F : List Addr) (is : List Nat) : Out → Prop
  | .nx ρ' => ∀ σ' H' F', PstB K β σ H F is ρ' σ' H' F' → D.nx σ' H'
  | .bk ρ' => ∀ σ' H' F', PstB K β σ H F is ρ' σ' H' F' → D.bk σ' H'
  | .ct ρ' => ∀ σ' H' F', PstB K β σ H F is ρ' σ' H' F' → D.ct σ' H'
  | .rt d ρ' => ∀ v σ' H' F' G, PstR K β σ H F is d ρ' v σ' H' F' G → D.rt v H'
def xS (Γ : List CT) (K : PySem.W.Frag) (s : St) : TS := fun D σ H => ∃ β ρ F o, Pre K β false σ ρ H F ∧ run Γ s ρ = some o ∧ MO D K β σ H F (stO s) o
def xB (Γ : List CT) (K : PySem.W.Frag) (ss : List St) : TS := fun D σ H => ∃ β ρ F o, Pre K β false σ ρ H F ∧ runs Γ ss ρ = some o ∧ MO D K β σ H F (stsO ss) o
section
variable {K : PySem.W.Frag} {H H1 H2 H' : Hp} {β : List Bool} {σ σ' σ1 σ2 : L2.St} {ρ ρ' ρ1 ρ2 : List S} {F F1 F2 A G : List Addr} {r : R} {v : V} {Γ : List CT} {is is2 : List Nat} {D : Ends} {o : Out}
theorem Bd.mono (h : Bd σ σ' is) (s : ∀ j ∈ is, j ∈ is2) : Bd σ σ' is2 := ⟨h.len, fun j hj => h.out j fun z => hj (s j z)⟩
theorem Bd.trans (h : Bd σ σ1 is) (h2 : Bd σ1 σ2 is2) : Bd σ σ2 (is ++ is2) := ⟨h2.len.trans h.len, fun j hj => by
  simp only [List.mem_append, not_or] at hj
  rw [h2.out j hj.2, h.out j hj.1]⟩
theorem PstB.then_ (h : PstB K β σ H F is ρ1 σ1 H1 F1) (h2 : PstB K β σ1 H1 F1 is2 ρ2 σ2 H2 F2) : PstB K β σ H F (is ++ is2) ρ2 σ2 H2 F2 :=
  ⟨h2.eo, h2.nd, (h.st.trans (fun a ha => ha) h2.st id).sub fun a ha => List.mem_append_right _ ha, h.bd.trans h2.bd⟩
theorem PstB.thenR {d : PF.D} (h : PstB K β σ H F is ρ1 σ1 H1 F1) (h2 : PstR K β σ1 H1 F1 is2 d ρ2 v σ2 H2 F2 G) : PstR K β σ H F (is ++ is2) d ρ2 v σ2 H2 F2 G :=
  ⟨h2.eo, h2.ow, h2.nd, (h.st.trans (fun a ha => ha) h2.st id).sub fun a ha => List.mem_append_right _ ha, h.bd.trans h2.bd⟩
theorem PstB.mono (h : PstB K β σ H F is ρ1 σ1 H1 F1) (s : ∀ j ∈ is, j ∈ is2) : PstB K β σ H F is2 ρ1 σ1 H1 F1 := ⟨h.eo, h.nd, h.st, h.bd.mono s⟩
theorem PstR.mono {d : PF.D} (h : PstR K β σ H F is d ρ1 v σ1 H1 F1 G) (s : ∀ j ∈ is, j ∈ is2) : PstR K β σ H F is2 d ρ1 v σ1 H1 F1 G := ⟨h.eo, h.ow, h.nd, h.st, h.bd.mono s⟩
theorem MO.mono (h : MO D K β σ H F is2 o) (s : ∀ j ∈ is, j ∈ is2) : MO D K β σ H F is o := by
  cases o with
  | nx ρ' => exact fun σ' H' F' p => h σ' H' F' (p.mono s)
  | bk ρ' => exact fun σ' H' F' p => h σ' H' F' (p.mono s)
  | ct ρ' => exact fun σ' H' F' p => h σ' H' F' (p.mono s)
  | rt d ρ' => exact fun v σ' H' F' G p => h v σ' H' F' G (p.mono s)
theorem MO.from_ (p : PstB K β σ H F is ρ1 σ1 H1 F1) (h : MO D K β σ H F (is ++ is2) o) : MO D K β σ1 H1 F1 is2 o := by
  cases o with
  | nx ρ' => exact fun σ' H' F' q => h σ' H' F' (p.then_ q)
  | bk ρ' => exact fun σ' H' F' q => h σ' H' F' (p.then_ q)
  | ct ρ' => exact fun σ' H' F' q => h σ' H' F' (p.then_ q)
  | rt d ρ' => exact fun v σ' H' F' G q => h v σ' H' F' G (p.thenR q)
theorem MO.ends {D2 : Ends} (h : MO D K β σ H F is o) (n : ∀ ρ', o ≠ .nx ρ') (b : D2.bk = D.bk) (c : D2.ct = D.ct) (r : D2.rt = D.rt) : MO D2 K β σ H F is o := by
  cases o with
  | nx ρ' => exact absurd rfl (n ρ')
  | bk ρ' => intro σ' H' F' p; rw [b]; exact h σ' H' F' p
  | ct ρ' => intro σ' H' F' p; rw [c]; exact h σ' H' F' p
  | rt d ρ' => intro v σ' H' F' G p; rw [r]; exact h v σ' H' F' G p
theorem PstB.pre (h : PstB K β σ H F is ρ1 σ1 H1 F1) (nb : noB β) : Pre K β false σ1 ρ1 H1 F1 := ⟨fun _ => nb, h.eo, h.nd⟩
theorem b_nil (h : xB Γ K [] D σ H) : D.nx σ H := by
  obtain ⟨β, ρ, F, o, p, e, m⟩ := h
  cases e
  exact m σ H F ⟨p.eo, p.nd, .refl, .refl _⟩
theorem b_cons {s : St} {ss : List St} (h : xB Γ K (s :: ss) D σ H) : tSeq (xS Γ K s) (xB Γ K ss) D σ H := by
  obtain ⟨β, ρ, F, o, p, e, m⟩ := h
  simp only [runs] at e
  split at e
  · rename_i ρ1 e1
    exact ⟨β, ρ, F, _, p, e1, fun σ1 H1 F1 q => ⟨β, ρ1, F1, o, q.pre (p.nb rfl), e, MO.from_ q m⟩⟩
  · rename_i hn
    exact ⟨β, ρ, F, o, p, e, MO.ends (MO.mono m fun j hj => List.mem_append_left _ hj) (fun ρ' z => hn ρ' (by rw [e, z])) rfl rfl rfl⟩
/-- an expression that is taken over -/
theorem Pre.own {e : Ex} {d : PF.D} {Q : VK} (p : Pre K β false σ ρ H F) (h : evOwn Γ e ρ = some (d, ρ1)) (k : ∀ v H1 F1 G, PstR K β σ H F [] d ρ1 v σ H1 F1 G → Q v H1) : xE Γ K e σ H Q := by
  unfold evOwn at h
  split at h
  · rename_i r ρ2 e1
    refine ⟨β, false, ρ, F, r, ρ2, p, e1, fun v H1 F1 G1 h1 => ?_⟩
    obtain ⟨F2, G2, eo, ow, nd, st, _, _⟩ := h1.own h
    exact k v H1 F2 G2 ⟨eo, ow, nd, st, .refl _⟩
  · cases h
theorem s_asg {i : Nat} {e : Ex} (h : xS Γ K (.asg i e) D σ H) : tAsg (xE Γ K e) (gName i) D σ H := by
  obtain ⟨β, ρ, F, o, p, er, m⟩ := h
  simp only [run] at er
  split at er
  · rename_i d ρ1 e1
    cases er
    refine p.own e1 fun v H1 F1 G h1 => ?_
    obtain ⟨F2, h2, h3⟩ := h1.eo.store' (i := i) h1.ow
    exact m _ _ F2 ⟨h3, h1.nd.sb h2, h1.st.sub fun a ha => h2.mem ha, Bd.set (.refl _)⟩
  · cases er
theorem s_asgT {is : List Nat} {e : Ex} (h : xS Γ K (.asgT is e) D σ H) : tAsg (xE Γ K e) (gT K (.many is)) D σ H := by
  obtain ⟨β, ρ, F, o, p, er, m⟩ := h
  simp only [run] at er
  split at er
  · rename_i d ρ1 e1
    split at er
    · rename_i ds e2
      cases e3 : putAll ρ1 is (ds.map .val) with
      | none => rw [e3] at er; cases er
      | some ρ2 =>
        rw [e3] at er
        cases er
        refine p.own e1 fun v H1 F1 G h1 => ?_
        refine g_val (tg := .many is) h1.eo h1.ow (by simp only [PF.bind, e2]; exact e3) fun σ2 F2 eo sb bd => ?_
        exact m _ _ F2 ⟨eo, h1.nd.sb sb, h1.st.sub fun a ha => sb.mem ha, bd⟩
    · cases er
  · cases er
/-- a display of values, its names stored -/
theorem s_asgD {is : List Nat} {es : List Ex} (h : xS Γ K (.asgT is (.tup es)) D σ H) : xL Γ K es σ H fun vs H1 => gNames is vs σ H1 D.nx := by
  obtain ⟨β, ρ, F, o, p, er, m⟩ := h
  simp only [run, evOwn] at er
  split at er
  · rename_i d ρ1 e1
    split at e1
    · rename_i r ρ2 e2
      simp only [ev] at e2
      split at e2
      · rename_i rs ρ3 e3
        split at e2
        · rename_i ds ρ4 e6
          split at e2
          · cases e2
            cases e1
            have hu : unpk (mkTup ds) = some ds := by
              unfold mkTup
              cases e4 : pures ds with
              | none => rfl
              | some ts => rw [pures_eq e4]; rfl
            rw [hu] at er
            simp only at er
            cases e5 : putAll ρ1 is (ds.map .val) with
            | none => rw [e5] at er; cases er
            | some ρ4 =>
              rw [e5] at er
              cases er
              refine ⟨β, false, ρ, F, rs, _, p, e3, fun vs H1 F0 G0 h0 => ?_⟩
              obtain ⟨F1, G, h1⟩ := h0.owns e6
              refine g_names h1.eo h1.ow e5 fun σ2 F2 eo sb bd => ?_
              exact m _ _ F2 ⟨eo, h1.nd.sb sb, h1.st.sub fun a ha => sb.mem ha, bd⟩
          · cases e2
        · cases e2
      · cases e2
    · cases e1
  · cases er
theorem s_ret {e : Ex} (h : xS Γ K (.ret e) D σ H) : tRet (xE Γ K e) D σ H := by
  obtain ⟨β, ρ, F, o, p, er, m⟩ := h
  simp only [run] at er
  split at er
  · rename_i d ρ1 e1
    cases er
    exact p.own e1 fun v H1 F1 G h1 => m v σ H1 F1 G h1
  · cases er
theorem s_retN (h : xS Γ K .retN D σ H) : tRetN D σ H := by
  obtain ⟨β, ρ, F, o, p, er, m⟩ := h
  cases er
  exact m .non σ H F [] ⟨p.eo, .p .non, by rw [List.append_nil]; exact p.nd, by rw [List.append_nil]; exact .refl, .refl _⟩
theorem s_brk (h : xS Γ K .brk D σ H) : tBreak D σ H := by
  obtain ⟨β, ρ, F, o, p, er, m⟩ := h
  cases er
  exact m σ H F ⟨p.eo, p.nd, .refl, .refl _⟩
theorem s_cnt (h : xS Γ K .cnt D σ H) : tCont D σ H := by
  obtain ⟨β, ρ, F, o, p, er, m⟩ := h
  cases er
  exact m σ H F ⟨p.eo, p.nd, .refl, .refl _⟩
theorem s_pass (h : xS Γ K .pass D σ H) : tNext D σ H := by
  obtain ⟨β, ρ, F, o, p, er, m⟩ := h
  cases er
  exact m σ H F ⟨p.eo, p.nd, .refl, .refl _⟩
theorem s_fail (h : xS Γ K .fail D σ H) : tNever D σ H := by
  obtain ⟨β, ρ, F, o, p, er, m⟩ := h
  cases er
theorem Pst.b {q : Bool} (h : Pst K β false σ ρ H F r ρ1 v H1 F1 G) : PstB K β σ H F is ρ1 σ H1 F1 := ⟨h.eo, h.nd.left, h.st.sub fun a ha => List.mem_append_left _ ha, .refl _⟩
theorem PstT.b (h : PstT K β false σ ρ H F ρ1 H1 F1) : PstB K β σ H F is ρ1 σ H1 F1 := ⟨h.eo, h.nd, h.st, .refl _⟩
theorem s_exp {e : Ex} (h : xS Γ K (.exp e) D σ H) : tDrop (xE Γ K e) D σ H := by
  obtain ⟨β, ρ, F, o, p, er, m⟩ := h
  simp only [run] at er
  split at er
  · rename_i r ρ1 e1
    cases er
    exact ⟨β, false, ρ, F, r, ρ1, p, e1, fun v H1 F1 G h1 => m _ _ F1 (PstT.b h1.t)⟩
  · cases er
theorem Pre.test {c : Ex} {k : Bool} {Q : Bool → Hp → Prop} (p : Pre K β false σ ρ H F) (h : evTest Γ c ρ = some (k, ρ1)) (kk : ∀ H1 F1, PstB K β σ H F [] ρ1 σ H1 F1 → Q k H1) : xT Γ K c σ H Q := by
  unfold evTest at h
  split at h
  · rename_i r ρ2 e1
    split at h
    · rename_i k' e2
      cases h
      exact ⟨β, false, ρ, F, r, ρ1, k, p, e1, e2, fun H1 F1 h1 => kk H1 F1 h1.b⟩
    · cases h
  · cases h
theorem s_ite {c : Ex} {a b : List St} (h : xS Γ K (.ite c a b) D σ H) : tIfS (xT Γ K c) (xB Γ K a) (xB Γ K b) D σ H := by
  obtain ⟨β, ρ, F, o, p, er, m⟩ := h
  simp only [run] at er
  split at er
  · rename_i ρ1 e1
    refine p.test e1 fun H1 F1 h1 => ite_tt ⟨β, ρ1, F1, o, h1.pre (p.nb rfl), er, ?_⟩
    exact MO.from_ h1 (MO.mono m fun j hj => List.mem_append_left _ (by simpa using hj))
  · rename_i ρ1 e1
    refine p.test e1 fun H1 F1 h1 => ite_ff ⟨β, ρ1, F1, o, h1.pre (p.nb rfl), er, ?_⟩
    exact MO.from_ h1 (MO.mono m fun j hj => List.mem_append_right _ (by simpa using hj))
  · cases er
end
end PF

set_option Elab.async false
set_option linter.all false
set_option maxRecDepth 100000
/-! PF22: what is written: items, append, extend, op= -/
namespace PF
open PySem PySem.Spec PyProof.Rows L2
section
variable {K : PySem.W.Frag} {H H1 H2 H' : Hp} {β : List Bool} {σ σ' σ1 σ2 : L2.St} {ρ ρ' ρ1 ρ2 : List S} {F F1 F2 A G : List Addr} {r : R} {v : V} {Γ : List CT} {is is2 : List Nat} {D : Ends} {o : Out}
theorem OWs.set {x : V} {d : PF.D} {G1 : List Addr} : ∀ {vs : List V} {ds : List PF.D} {G : List Addr} (j : Nat), OWs K H vs ds G → OW K H x d G1 → ∃ G', OWs K H (vs.set j x) (ds.set j d) G' ∧ Sb G' (G ++ G1)
  | _, _, _, _, .nil, _ => ⟨[], .nil, fun a => by simp⟩
  | _, _, _, 0, .cons h hs, o => ⟨_, .cons o hs, fun a => by simp only [ct_app]; omega⟩
  | _, _, _, j + 1, .cons h hs, o => by
    obtain ⟨G', h1, h2⟩ := OWs.set j hs o
    exact ⟨_, .cons h h1, fun a => by have := h2 a; simp only [ct_app] at *; omega⟩
theorem Fr.upd1 {p : Addr} {o : HO} : Fr H (upd H p o) [p] := fun a o' e n => by
  rw [upd_ne fun z => n (by rw [z]; exact List.mem_singleton.mpr rfl)]
  exact e
theorem nin1 {p a : Addr} {A : List Addr} (h : List.count (α := Nat) p A = 0) (ha : a ∈ A) : a ∉ [p] := fun z => by
  rw [List.mem_singleton.mp z] at ha
  exact absurd ha (List.count_eq_zero.mp h)
/-- the list of a name, changed in place -/
theorem EO.change {i : Nat} {ds ds' : List PF.D} {G0 : List Addr} (eo : EO K H β σ ρ F) (nb : noB β) (nd : ND (F ++ G0)) (m0 : MutF H G0) (e : look ρ i = .val (.l ds)) :
    ∃ p vs Gs F0, σ[i]? = some (some (.ref p)) ∧ H p = some (.lst vs) ∧ OWs K H vs ds Gs ∧ (∀ a : Nat, List.count (α := Nat) a F = List.count a (p :: Gs) + List.count a F0) ∧ EO K H β σ (put ρ i .no) F0 ∧ List.count (α := Nat) p Gs = 0 ∧ List.count (α := Nat) p G0 = 0 ∧
      ∀ (vs' : List V) (G' : List Addr), OWs K (upd H p (.lst vs')) vs' ds' G' → ∃ F', (∀ a : Nat, List.count (α := Nat) a F' = List.count a F0 + List.count a (p :: G')) ∧ EO K (upd H p (.lst vs')) β σ (put ρ i (.val (.l ds'))) F' := by
  obtain ⟨w, Gw, F0, h1, h2, h3, h4⟩ := eo.val_at e
  cases h2 with
  | @l p vs _ Gs h5 h6 =>
    have hp := nd p
    have h4p := h4 p
    simp only [ct_app, ct_cons, if_pos] at hp h4p
    refine ⟨p, vs, Gs, F0, h1, h5, h6, h4, h3, by omega, by omega, fun vs' G' o' => ?_⟩
    have eo0 : EO K (upd H p (.lst vs')) β σ (put ρ i .no) F0 := h3.fr Fr.upd1 (MutF.one h5) nb fun a ha => nin1 (by omega) ha
    obtain ⟨F', k1, k2⟩ := eo0.fill (i := i) (look_put _ _ _ (by
      have := (List.getElem?_eq_some_iff.mp h1).1
      rw [eo.len]; exact this)) h1 (.l upd_same o')
    rw [put_put] at k2
    exact ⟨F', k1, k2⟩
/-- an item of a name's list -/
theorem Step.wr {p : Addr} {o : HO} (st : Step false H F H1 A) (hp : p ∈ A) : Step false H F (upd H1 p o) A := ⟨st.nw, fun a ob e n => by
  rw [upd_ne fun z => ?_]
  · exact st.fr a ob e n
  · subst z
    rcases st.nw a hp with w | w
    · exact n w
    · rw [w] at e; cases e⟩
theorem evQ {e : Ex} {q : Bool} {r : R} {Q : VK} (eo : EO K H β σ ρ F) (nd : ND F) (h : ev Γ true e ρ = some (r, ρ1)) (k : ∀ w H1 F1 G1, Fr H H1 [] → EO K H1 β σ ρ1 F1 → RR K H1 σ r w G1 → Q w H1) : xE Γ K e σ H Q :=
  ⟨β, true, ρ, F, r, ρ1, ⟨(fun z => by cases z), eo, nd⟩, h, fun w H1 F1 G1 h1 => k w H1 F1 G1 h1.st.q0 h1.eo h1.rr⟩
theorem g_s1 {i : Nat} {ie : Ex} {d : PF.D} {Q : L2.St → Hp → Prop} (nb : noB β) (eo : EO K H β σ ρ F) (ow : OW K H v d G) (nd : ND (F ++ G)) (e : store Γ d ρ (.s1 i ie) = some ρ2)
    (k : ∀ H2 F2, EO K H2 β σ ρ2 F2 → ND F2 → Step false H (F ++ G) H2 F2 → Q σ H2) : gSub (xE Γ K (.nm i)) (xE Γ K ie) rSetL v σ H Q := by
  simp only [store] at e
  split at e
  · rename_i ri ρx e1
    split at e
    · rename_i kk ds e2 e3
      split at e
      · rename_i j e4
        cases e
        obtain ⟨w0, G00, F00, h01, h02, _⟩ := eo.val_at e3
        refine evQ (q := true) (e := .nm i) (r := .nm i) (ρ1 := ρ) eo nd.left (by simp only [ev, e3]) fun w H1 F1 G1 f1 eo1' rr1 => ?_
        have eo1 : EO K H1 β σ ρ F := eo.fr0 f1
        cases rr1 with
        | nm hi =>
          rw [h01] at hi
          cases hi
          refine evQ (q := true) eo1 nd.left e1 fun wi H2 F2 G2 f2 eo2 rr2 => ?_
          have f12 : Fr H H2 [] := fun a ob ea _ => f2 a ob (f1 a ob ea fun z => nomatch z) fun z => nomatch z
          have eo3 : EO K H2 β σ ρ F := eo.fr0 f12
          have ow3 : OW K H2 v d G := ow.fr f12 .nil fun _ _ z => nomatch z
          obtain ⟨p, vs, Gs, F0, h1, h2, h3, h4, h5, h6, h7, h8⟩ := eo3.change (ds' := ds.set j d) nb nd ow3.mt e3
          rw [h01] at h1
          cases h1
          obtain ⟨G', k1, k2⟩ := h3.set j ow3
          have k1' : OWs K (upd H2 p (.lst (vs.set j v))) (vs.set j v) (ds.set j d) G' := k1.fr Fr.upd1 (MutF.one h2) fun a ha => nin1 (by have := k2 p; rw [ct_app] at this; omega) ha
          obtain ⟨F', c1, c2⟩ := h8 (vs.set j v) G' k1'
          have hk := rr2.rd eo3 e2
          refine ⟨p, vs, kk, j, rfl, hk.int, h2, by rw [h3.len]; exact e4, k _ F' c2 (nd.perm fun a => ?_) ?_⟩
          · have := c1 a; have := k2 a; have := h4 a
            simp only [ct_app, ct_cons] at *
            omega
          · have hpA : p ∈ F ++ G := by
              refine List.mem_append_left _ (mem_ct.mpr ?_)
              have := h4 p
              simp only [ct_cons, if_pos] at this
              omega
            have st0 : Step false H (F ++ G) H2 (F ++ G) := ⟨fun a ha => .inl ha, fun a ob ea _ => f12 a ob ea fun z => nomatch z⟩
            refine (st0.wr hpA).sub fun a ha => ?_
            have z := mem_ct.mp ha
            have := c1 a; have := k2 a; have := h4 a
            refine mem_ct.mpr ?_
            simp only [ct_app, ct_cons] at *
            omega
      · cases e
    · cases e
  · cases e
theorem OWs.set2 {x : V} {p : Addr} {ws : List V} {es es' : List PF.D} {G1 : List Addr} : ∀ {vs : List V} {ds : List PF.D} {G : List Addr} {j : Nat}, OWs K H vs ds G → ds[j]? = some (.l es) → ND G →
    ∃ p ws Ge, vs[j]? = some (.ref p) ∧ H p = some (.lst ws) ∧ OWs K H ws es Ge ∧ p ∈ G ∧ (∀ a ∈ Ge, a ∈ G) ∧ List.count (α := Nat) p Ge = 0 ∧ ∀ ws' es' G', OWs K (upd H p (.lst ws')) ws' es' G' →
      ∃ G2, OWs K (upd H p (.lst ws')) vs (ds.set j (.l es')) G2 ∧ ∀ a : Nat, List.count (α := Nat) a G2 + List.count a Ge = List.count a G + List.count a G'
  | _, _, _, _, .nil, e, _ => by simp at e
  | _, _, _, 0, .cons (G2 := Gr) h hs, e, nd => by
    simp at e
    subst e
    cases h with
    | @l p ws _ Ge h1 h2 =>
      have np := nd p
      simp only [ct_app, ct_cons, if_pos] at np
      refine ⟨p, ws, Ge, rfl, h1, h2, by simp, fun a ha => List.mem_append_left _ (List.mem_cons_of_mem _ ha), by omega, fun ws' es' G' o => ⟨_, .cons (.l upd_same o) (hs.fr Fr.upd1 (MutF.one h1) fun a ha => nin1 (by omega) ha), fun a => ?_⟩⟩
      simp only [ct_app, ct_cons]
      omega
  | _, _, _, j + 1, .cons (G1 := Gh) h hs, e, nd => by
    obtain ⟨p, ws, Ge, h1, h2, h3, h4, h5, h6, h7⟩ := OWs.set2 (x := x) (p := p) (ws := ws) (es' := es') (G1 := G1) hs (by simpa using e) nd.right
    refine ⟨p, ws, Ge, by simpa using h1, h2, h3, List.mem_append_right _ h4, fun a ha => List.mem_append_right _ (h5 a ha), h6, fun ws' es' G' o => ?_⟩
    obtain ⟨G2, k1, k2⟩ := h7 ws' es' G' o
    have np := nd p
    have n4 := mem_ct.mp h4
    rw [ct_app] at np
    refine ⟨_, .cons (h.fr Fr.upd1 (MutF.one h2) fun a ha => nin1 (by omega) ha) k1, fun a => ?_⟩
    have := k2 a
    simp only [ct_app]
    omega
theorem g_s2 {i : Nat} {ie je : Ex} {d : PF.D} {Q : L2.St → Hp → Prop} (nb : noB β) (eo : EO K H β σ ρ F) (ow : OW K H v d G) (nd : ND (F ++ G)) (e : store Γ d ρ (.s2 i ie je) = some ρ2)
    (k : ∀ H2 F2, EO K H2 β σ ρ2 F2 → ND F2 → Step false H (F ++ G) H2 F2 → Q σ H2) : gSub (tOp (rIx K) (xE Γ K (.nm i)) (xE Γ K ie)) (xE Γ K je) rSetL v σ H Q := by
  simp only [store] at e
  split at e
  · rename_i ri ρx e1
    split at e
    · rename_i kk e2
      split at e
      · rename_i ds e3
        split at e
        · rename_i m e4
          split at e
          · rename_i es e5
            split at e
            · rename_i rj ρy e6
              split at e
              · rename_i k2 e7
                split at e
                · rename_i m2 e8
                  cases e
                  obtain ⟨w0, G00, F00, h01, h02, _⟩ := eo.val_at e3
                  refine evQ (q := true) (e := .nm i) (r := .nm i) (ρ1 := ρ) eo nd.left (by simp only [ev, e3]) fun w H1 F1 G1 f1 eo1' rr1 => ?_
                  have eo1 : EO K H1 β σ ρ F := eo.fr0 f1
                  cases rr1 with
                  | nm hi =>
                    rw [h01] at hi
                    cases hi
                    refine evQ (q := true) eo1 nd.left e1 fun wi H2 F2 G2 f2 eo2 rr2 => ?_
                    have f12 : Fr H H2 [] := fun a ob ea _ => f2 a ob (f1 a ob ea fun z => nomatch z) fun z => nomatch z
                    have eo3 : EO K H2 β σ ρ F := eo.fr0 f12
                    obtain ⟨wl, Gl, Fl, l1, l2, _⟩ := eo3.val_at e3
                    rw [h01] at l1
                    cases l1
                    cases l2 with
                    | @l p vs _ Gs l3 l4 =>
                      obtain ⟨u, Gu, u1, u2, _⟩ := l4.get e5
                      have hki := (rr2.rd eo3 e2).int
                      subst hki
                      refine .inl ⟨p, vs, kk, u, rfl, rfl, .of l3, by unfold atI; rw [l4.len, e4]; exact u1, ?_⟩
                      refine evQ (q := true) eo3 nd.left e6 fun wj H4 F4 G4 f4 eo4 rr4 => ?_
                      have f14 : Fr H H4 [] := fun a ob ea _ => f4 a ob (f12 a ob ea fun z => nomatch z) fun z => nomatch z
                      have eo5 : EO K H4 β σ ρ F := eo.fr0 f14
                      have ow5 : OW K H4 v d G := ow.fr f14 .nil fun _ _ z => nomatch z
                      obtain ⟨wl, Gl, F0, l1, l2, eo0, c4⟩ := eo5.val_at e3
                      rw [h01] at l1
                      cases l1
                      cases l2 with
                      | @l _ vs5 _ Gs5 l5 l6 =>
                        have ndG : ND Gs5 := nd.left.perm fun a => by have := c4 a; simp only [ct_cons] at this; omega
                        obtain ⟨p2, ws, Ge, t1, t2, t3, t4, t5, t6, t7⟩ := OWs.set2 (x := v) (p := p) (ws := []) (es' := []) (G1 := []) l6 e5 ndG
                        have hu : u = .ref p2 := by
                          have := f4 p _ l3 (fun z => nomatch z)
                          rw [l5] at this
                          cases this
                          rw [u1] at t1
                          exact Option.some.inj t1
                        subst hu
                        have hkj := (rr4.rd eo5 e7).int
                        obtain ⟨G', s1, s2⟩ := t3.set m2 ow5
                        have hcp := nd p2
                        have c4p := c4 p2
                        have n4 := mem_ct.mp t4
                        simp only [ct_app, ct_cons] at hcp c4p
                        have s1' : OWs K (upd H4 p2 (.lst (ws.set m2 v))) (ws.set m2 v) (es.set m2 d) G' := s1.fr Fr.upd1 (MutF.one t2) fun a ha => nin1 (by have := s2 p2; rw [ct_app] at this; omega) ha
                        obtain ⟨G2', q1, q2⟩ := t7 _ _ _ s1'
                        have hpp : p ≠ p2 := fun z => by subst z; simp only [if_pos] at c4p; omega
                        have l5' : (upd H4 p2 (.lst (ws.set m2 v))) p = some (.lst vs5) := by rw [upd_ne hpp]; exact l5
                        have eo6 : EO K (upd H4 p2 (.lst (ws.set m2 v))) β σ (put ρ i .no) F0 := eo0.fr Fr.upd1 (MutF.one t2) nb fun a ha => nin1 (by omega) ha
                        obtain ⟨F', g1, g2⟩ := eo6.fill (i := i) (look_put _ _ _ (by
                          have := (List.getElem?_eq_some_iff.mp h01).1
                          rw [eo.len]; exact this)) h01 (.l l5' q1)
                        rw [put_put] at g2
                        refine ⟨p2, ws, k2, m2, rfl, hkj, t2, by rw [t3.len]; exact e8, k _ F' g2 (nd.perm fun a => ?_) ?_⟩
                        · have := g1 a; have := q2 a; have := s2 a; have := c4 a
                          simp only [ct_app, ct_cons] at *
                          omega
                        · have hpA : p2 ∈ F ++ G := by
                            refine List.mem_append_left _ (mem_ct.mpr ?_)
                            have := c4 p2
                            simp only [ct_cons] at this
                            omega
                          have st0 : Step false H (F ++ G) H4 (F ++ G) := ⟨fun a ha => .inl ha, fun a ob ea _ => f14 a ob ea fun z => nomatch z⟩
                          refine (st0.wr hpA).sub fun a ha => ?_
                          have z := mem_ct.mp ha
                          have := g1 a; have := q2 a; have := s2 a; have := c4 a
                          refine mem_ct.mpr ?_
                          simp only [ct_app, ct_cons] at *
                          omega
                · cases e
              · cases e
            · cases e
          · cases e
        · cases e
      · cases e
    · cases e
  · cases e
theorem s_app {i : Nat} {e : Ex} (h : xS Γ K (.app i e) D σ H) : tDrop (tBM K "list" rAppend (tVar i) (tCons (xE Γ K e) tNil)) D σ H := by
  obtain ⟨β, ρ, F, o, p, er, m⟩ := h
  simp only [run] at er
  split at er
  · rename_i ds0 e0
    split at er
    · rename_i d ρ1 e1
      split at er
      · rename_i ds e2
        split at er
        · rename_i hl
          cases er
          obtain ⟨w, G0, _, h1, h2, _⟩ := p.eo.val_at e0
          cases h2 with
          | @l q vs0 _ _ h3 h4 =>
            refine ⟨_, h1, .inl ⟨rfl, vs0, .of h3⟩, p.own e1 fun v H1 F1 G h5 => ?_⟩
            obtain ⟨q', vs, Gs, F0, k1, k2, k3, k4, k5, k6, k7, k8⟩ := h5.eo.change (ds' := ds ++ [d]) (p.nb rfl) h5.nd h5.ow.mt e2
            rw [h1] at k1
            cases k1
            have k9 : OWs K (upd H1 q (.lst (vs ++ [v]))) (vs ++ [v]) (ds ++ [d]) (Gs ++ (G ++ [])) :=
              (k3.fr Fr.upd1 (MutF.one k2) fun a ha => nin1 k6 ha).app (.cons (h5.ow.fr Fr.upd1 (MutF.one k2) fun a ha => nin1 k7 ha) .nil)
            obtain ⟨F', c1, c2⟩ := k8 _ _ k9
            refine ⟨q, vs, v, rfl, rfl, k2, by rw [k3.len, ← LIM_line]; exact hl, m _ _ F' ⟨c2, h5.nd.perm fun a => ?_, ?_, .refl _⟩⟩
            · have := c1 a; have := k4 a
              simp only [ct_app, ct_cons, List.count_nil] at *
              omega
            · have hq : q ∈ F1 ++ G := List.mem_append_left _ (mem_ct.mpr (by have := k4 q; simp only [ct_cons, if_pos] at this; omega))
              refine (h5.st.wr hq).sub fun a ha => ?_
              have z := mem_ct.mp ha
              have := c1 a; have := k4 a
              refine mem_ct.mpr ?_
              simp only [ct_app, ct_cons, List.count_nil] at *
              omega
        · cases er
      · cases er
    · cases er
  · cases er
theorem s_ext {i : Nat} {e : Ex} (h : xS Γ K (.ext i e) D σ H) : tDrop (tBM K "list" rExtend (tVar i) (tCons (xE Γ K e) tNil)) D σ H := by
  obtain ⟨β, ρ, F, o, p, er, m⟩ := h
  simp only [run] at er
  split at er
  · rename_i ds0 e0
    split at er
    · rename_i es ρ1 e1
      split at er
      · rename_i ds e2
        split at er
        · rename_i hl
          cases er
          obtain ⟨w, G0, _, h1, h2, _⟩ := p.eo.val_at e0
          cases h2 with
          | @l q vs0 _ _ h3 h4 =>
            refine ⟨_, h1, .inl ⟨rfl, vs0, .of h3⟩, p.own e1 fun v H1 F1 G h5 => ?_⟩
            have how := h5.ow
            have hnd := h5.nd
            cases how with
            | @l b zs _ Gz z1 z2 =>
              obtain ⟨q', vs, Gs, F0, k1, k2, k3, k4, k5, k6, k7, k8⟩ := h5.eo.change (ds' := ds ++ es) (p.nb rfl) h5.nd h5.ow.mt e2
              rw [h1] at k1
              cases k1
              simp only [ct_cons] at k7
              have k9 : OWs K (upd H1 q (.lst (vs ++ zs))) (vs ++ zs) (ds ++ es) (Gs ++ Gz) :=
                (k3.fr Fr.upd1 (MutF.one k2) fun a ha => nin1 k6 ha).app (z2.fr Fr.upd1 (MutF.one k2) fun a ha => nin1 (by omega) ha)
              obtain ⟨F', c1, c2⟩ := k8 _ _ k9
              refine ⟨q, b, vs, zs, rfl, rfl, k2, z1, by rw [k3.len, z2.len, ← LIM_line]; exact hl, m _ _ F' ⟨c2, hnd.perm fun a => ?_, ?_, .refl _⟩⟩
              · have := c1 a; have := k4 a
                simp only [ct_app, ct_cons, List.count_nil] at *
                omega
              · have hq : q ∈ F1 ++ (b :: Gz) := List.mem_append_left _ (mem_ct.mpr (by have := k4 q; simp only [ct_cons, if_pos] at this; omega))
                refine (h5.st.wr hq).sub fun a ha => ?_
                have z := mem_ct.mp ha
                have := c1 a; have := k4 a
                refine mem_ct.mpr ?_
                simp only [ct_app, ct_cons, List.count_nil] at *
                omega
        · cases er
      · cases er
    · cases er
  · cases er
/-- op=, of ints -/
def ipO : Operator → Option Op
  | .Add => some .add | .Sub => some .sub | .Mult => some .mul
  | _ => none
def tIp (o : Op) : TIp := fun x y H Q => ∃ i j z, x = .int i ∧ y = .int j ∧ opD o [.p (.int i), .p (.int j)] = some z ∧ ∀ k, z = .p (.int k) → Q (.int k) H
theorem ip_ok {X : Cx} {op : Operator} {o : Op} (h : ipO op = some o) : PIp X op (tIp o) := by
  intro pins s σ H x y v u Q I rx ry ⟨i, j, z, ex, ey, e, q⟩
  cases op <;> cases h
  · cases e
    exact iop_add pins s σ H x y v u Q I rx ry ⟨i, j, ex, ey, q _ rfl⟩
  · cases e
    exact iop_sub pins s σ H x y v u Q I rx ry ⟨i, j, ex, ey, q _ rfl⟩
  · simp only [opD, mulD] at e
    split at e
    · rename_i hb
      cases e
      exact iop_mul pins s σ H x y v u Q I rx ry ⟨i, j, ex, ey, big64_of hb, q _ rfl⟩
    · cases e
theorem s_aug {i : Nat} {op : Operator} {o : Op} {e : Ex} (ho : ipO op = some o) (h : xS Γ K (.aug i o e) D σ H) : tAug i (xE Γ K e) (tIp o) D σ H := by
  obtain ⟨β, ρ, F, oo, p, er, m⟩ := h
  simp only [run] at er
  split at er
  · rename_i x e0
    split at er
    · rename_i r ρ1 e1
      split at er
      · rename_i y e2
        split at er
        · rename_i z e3
          cases er
          obtain ⟨w, G0, _, h1, h2, _⟩ := p.eo.val_at e0
          have hw : w = .int x := Rd.int ⟨_, h2⟩
          subst hw
          refine ⟨_, h1, β, false, ρ, F, r, ρ1, p, e1, fun v H1 F1 G1 h3 => ⟨x, y, .p z, rfl, (h3.rr.rd h3.eo e2).int, e3, fun k ek => ?_⟩⟩
          cases ek
          obtain ⟨F2, c1, c2⟩ := h3.eo.store' (i := i) (v := .int k) (d := .p (.int k)) (G := []) (.p (.int k))
          rw [List.append_nil] at c1
          exact m _ _ F2 ⟨c2, h3.nd.left.sb c1, h3.st.sub fun a ha => List.mem_append_left _ (c1.mem ha), Bd.set (.refl _)⟩
        · cases er
      · cases er
    · cases er
  · cases er
end
end PF

set_option Elab.async false
set_option linter.all false
set_option maxRecDepth 100000
/-! PF23: loops -/
namespace PF
open PySem PySem.Spec PyProof.Rows L2
section
variable {K : PySem.W.Frag} {H H1 H2 H' : Hp} {β : List Bool} {σ σ' σ1 σ2 : L2.St} {ρ ρ' ρ1 ρ2 : List S} {F F1 F2 A G G1 : List Addr} {r : R} {v : V} {Γ : List CT} {is is2 : List Nat} {D : Ends} {o : Out} {J : It} {w : Wk}
theorem SW.re {a : Sq} {k : Bool} {p : Addr} (h : SW K H σ a k p G) (e : ∀ r ∈ a.lives, σ'[r]? = σ[r]?) : SW K H σ' a k p G := by
  cases h with
  | tup h1 h2 => exact .tup h1 h2
  | ro h1 h2 => exact .ro h1 h2
  | tmp h1 h2 => exact .tmp h1 h2
  | live h1 => exact .live (by rw [e _ List.mem_cons_self]; exact h1)
theorem JW.re (h : JW K H σ J w G) (e : ∀ r ∈ w.lives, σ'[r]? = σ[r]?) : JW K H σ' J w G := by
  cases h with
  | one h => exact .one (h.re e)
  | enum h => exact .enum (h.re e)
  | zip h1 h2 => exact .zip (h1.re fun r hr => e r (List.mem_append_left _ hr)) (h2.re fun r hr => e r (List.mem_append_right _ hr))
  | rng => exact .rng
  | lent h1 h2 => exact .lent h1 h2
theorem less_refl : Less σ σ := fun _ _ h => h
theorem PstB.kill {dead : List Nat} (h : PstB K β σ H F is ρ1 σ1 H1 F1) : ∃ F2, PstB K β σ H F is (PF.kill ρ1 dead) σ1 H1 F2 := by
  obtain ⟨F2, h1, h2⟩ := h.eo.kill dead rfl fun _ _ => rfl
  exact ⟨F2, h2, h.nd.sb h1, h.st.sub fun a ha => h1.mem ha, h.bd⟩
/-- what is aside through a step -/
theorem JW.aside (j : JW K H σ J w G1) (hl : w.isLent = false) (nd : ND (F ++ G1)) (m : MutF H F) (f : Fr H H1 F) : JW K H1 σ J w G1 :=
  j.fr f m (fun a ha z => nd.apart z ha) fun z => by rw [hl] at z; cases z
theorem s_for {tg : Tg} {kind : Nat} {src : List Ex} {body : List St} {dead : List Nat} (h : xS Γ K (.for_ tg kind src body dead) D σ H) : tFor (xI Γ K kind src) (gT K tg) (xB Γ K body) D σ H := by
  obtain ⟨β, ρ, F, o, p, er, mo⟩ := h
  simp only [run] at er
  split at er
  · rename_i rs ρ1 e1
    split at er
    · rename_i w ek
      split at er
      · rename_i hw
        simp only [Bool.and_eq_true, Bool.not_eq_true'] at hw
        obtain ⟨hl, hlv⟩ := hw
        have hlive : ∀ r ∈ w.lives, r ∉ tg.own ++ stsO body := fun r hr => by
          have := List.all_eq_true.mp hlv r hr
          simpa using this
        generalize hf : (fun (d : PF.D) (ρ : List S) => _ : PF.D → List S → Option Out) = f at er
        have nb := p.nb rfl
        refine x_src p e1 ek fun J H1 F1 G1 h1 => ?_
        -- the state at a turn
        let I := fun (i : Nat) (σi : L2.St) (Hi : Hp) => i ≤ w.len ∧ ∃ ρi Fi, PstB K β σ H F (tg.own ++ stsO body) ρi σi Hi Fi ∧ JW K Hi σi J w G1 ∧ ND (Fi ++ G1) ∧ forN w f (w.len - i) ρi = some o
        refine ⟨fun i m σi Hi => m = w.len - i ∧ I i σi Hi, ⟨w.len, rfl, Nat.zero_le _, ?_⟩, ?_⟩
        · have b0 : PstB K β σ H F (tg.own ++ stsO body) ρ1 σ H1 F1 := ⟨h1.eo, h1.nd.left, h1.st.sub fun a ha => List.mem_append_left _ ha, .refl _⟩
          obtain ⟨F2, k1, k2⟩ := h1.eo.kill dead rfl fun _ _ => rfl
          refine ⟨_, F2, ⟨k2, h1.nd.left.sb k1, h1.st.sub fun a ha => List.mem_append_left _ (k1.mem ha), .refl _⟩, h1.jw, h1.nd.perm fun a => ?_, er⟩
          have := k1 a
          simp only [ct_app]
          omega
        rintro i m σi Hi ⟨rfl, hi, ρi, Fi, b, j, nd, hwk⟩
        by_cases hlt : i < w.len
        · refine .inr ?_
          obtain ⟨kn, hk⟩ : ∃ kn, w.len - i = kn + 1 := ⟨w.len - i - 1, by omega⟩
          rw [hk] at hwk
          simp only [forN] at hwk
          have hix : w.len - (kn + 1) = i := by omega
          have hkn : w.len - (i + 1) = kn := by omega
          rw [hix] at hwk
          split at hwk
          · rename_i d ed
            obtain ⟨hgo, hyld⟩ := j.turn b.eo less_refl ed
            refine ⟨hgo, I (i + 1), fun σ' H' hn => ⟨_, (by omega : w.len - (i + 1) < w.len - i), rfl, hn⟩, fun x H3 hy => ?_⟩
            obtain ⟨Gx, ox, ndx, nwx, fx⟩ := (hyld x H3 hy).1 hl
            cases ef : f d ρi with
            | none => rw [ef] at hwk; cases hwk
            | some ob' =>
              have ef' := ef
              rw [← hf] at ef
              simp only at ef
              split at ef
              · rename_i ρb eb
                cases er2 : runs Γ body ρb with
                | none => rw [er2] at ef; cases ef
                | some ob =>
                  rw [er2] at ef
                  cases ef
                  rw [ef'] at hwk
                  refine g_val (b.eo.fr0 fx) ox eb fun σ2 F2 eo2 sb bd => ?_
                  -- the places with the target, from the loop's start
                  have nd2 : ND ((F2 ++ G1)) := by
                    have ndA : ND (Gx ++ (Fi ++ G1)) := ND.keep (F1 := []) (H1 := Hi) (by simpa using nd) (b.eo.mt.app j.mt) ndx fun a ha => .inr (nwx a ha)
                    refine ndA.perm fun a => ?_
                    have := sb a
                    simp only [ct_app] at *
                    omega
                  have st2 : Step false Hi Fi H3 F2 := ⟨fun a ha => by
                    rcases List.mem_append.mp (sb.mem ha) with z | z
                    · exact .inl z
                    · exact .inr (nwx a z), fun a ob ea _ => fx a ob ea fun z => nomatch z⟩
                  have b2 : PstB K β σ H F ((tg.own ++ stsO body) ++ tg.own) ρb σ2 H3 F2 := b.then_ ⟨eo2, nd2.left, st2, bd⟩
                  have j2 : JW K H3 σ2 J w G1 := (j.fr fx .nil (fun _ _ z => nomatch z) (fun _ => rfl)).re fun r hr => bd.out r fun z => hlive r hr (List.mem_append_left _ z)
                  have sub3 : ∀ jj ∈ ((tg.own ++ stsO body) ++ tg.own) ++ stsO body, jj ∈ tg.own ++ stsO body := fun jj hj => by
                    simp only [List.mem_append] at hj ⊢
                    rcases hj with (hj | hj) | hj
                    · exact hj
                    · exact .inl hj
                    · exact .inr hj
                  -- what a turn leaves
                  have next : ∀ {ρ3 : List S}, forN w f kn (PF.kill ρ3 dead) = some o → ∀ σ' H' F', PstB K β σ2 H3 F2 (stsO body) ρ3 σ' H' F' → I (i + 1) σ' H' := fun {ρ3} hfn σ' H' F' q => by
                    have b3 := (b2.then_ q).mono sub3
                    obtain ⟨F4, k1, k2⟩ := q.eo.kill dead rfl fun _ _ => rfl
                    have j3 : JW K H' σ' J w G1 := (j2.aside hl nd2 eo2.mt q.st.fr).re fun r hr => q.bd.out r fun z => hlive r hr (List.mem_append_right _ z)
                    have nd3 : ND (F' ++ G1) := nd2.keep j2.mt q.nd q.st.nw
                    refine ⟨hlt, _, F4, ⟨k2, b3.nd.sb k1, b3.st.sub fun a ha => k1.mem ha, b3.bd⟩, j3, nd3.perm fun a => ?_, by rw [hkn]; exact hfn⟩
                    have := k1 a
                    simp only [ct_app]
                    omega
                  have bb : ∀ {is : List Nat} {ob : Out}, MO D K β σ H F (tg.own ++ stsO body) ob → MO D K β σ2 H3 F2 (stsO body) ob := fun {is ob} mm => MO.from_ b2 (MO.mono mm sub3)
                  have mo : MO D K β σ H F (tg.own ++ stsO body) o := mo
                  refine ⟨β, ρb, F2, ob, ⟨fun _ => nb, eo2, nd2.left⟩, er2, ?_⟩
                  cases ob with
                  | nx ρ3 => exact next hwk
                  | ct ρ3 => exact next hwk
                  | bk ρ3 =>
                    have hwk : some (Out.nx (PF.kill ρ3 dead)) = some o := hwk
                    cases hwk
                    intro σ' H' F' q
                    obtain ⟨F4, q4⟩ := ((b2.then_ q).mono sub3).kill (dead := dead)
                    exact mo σ' H' F4 q4
                  | rt d ρ3 =>
                    have hwk : some (Out.rt d ρ3) = some o := hwk
                    cases hwk
                    intro v σ' H' F' G q
                    exact mo v σ' H' F' G ((b2.thenR q).mono sub3)
              · cases ef
          · cases hwk
        · refine .inl ?_
          have hi' : i = w.len := by omega
          subst hi'
          rw [Nat.sub_self] at hwk
          simp only [forN] at hwk
          split at hwk
          · rename_i hok
            cases hwk
            exact ⟨j.stop b.eo less_refl hok, mo σi Hi Fi b⟩
          · cases hwk
      · cases er
    · cases er
  · cases er
theorem s_whl {c : Ex} {body : List St} {dead : List Nat} (h : xS Γ K (.whl c body dead) D σ H) : tWhile (xT Γ K c) (xB Γ K body) D σ H := by
  obtain ⟨β, ρ, F, o, p, er, mo⟩ := h
  simp only [run] at er
  have nb := p.nb rfl
  have mo : MO D K β σ H F (stsO body) o := mo
  generalize hf : (fun (ρ : List S) => _ : List S → Option Out) = f at er
  obtain ⟨F0, b0⟩ := PstB.kill (dead := dead) (⟨p.eo, p.nd, .refl, .refl _⟩ : PstB K β σ H F (stsO body) ρ σ H F)
  refine ⟨fun m σi Hi => ∃ ρi Fi, PstB K β σ H F (stsO body) ρi σi Hi Fi ∧ whW (evTest Γ c) f m ρi = some o, ⟨FUEL, _, F0, b0, er⟩, ?_⟩
  rintro m σi Hi ⟨ρi, Fi, b, hw⟩
  cases m with
  | zero => cases hw
  | succ m =>
    simp only [whW] at hw
    split at hw
    · rename_i ρ1 e1
      refine (b.pre nb).test e1 fun H1 F1 h1 => ite_tt ?_
      have b1 : PstB K β σ H F (stsO body ++ []) ρ1 σi H1 F1 := b.then_ h1
      cases ef : f ρ1 with
      | none => rw [ef] at hw; cases hw
      | some ob' =>
        have ef' := ef
        rw [← hf] at ef
        simp only at ef
        cases er2 : runs Γ body ρ1 with
        | none => rw [er2] at ef; cases ef
        | some ob =>
          rw [er2] at ef
          cases ef
          rw [ef'] at hw
          have sub3 : ∀ jj ∈ (stsO body ++ []) ++ stsO body, jj ∈ stsO body := fun jj hj => by simpa using hj
          refine ⟨fun σ' H' => ∃ ρi Fi, PstB K β σ H F (stsO body) ρi σ' H' Fi ∧ whW (evTest Γ c) f m ρi = some o, fun σ' H' hn => ⟨m, Nat.lt_succ_self _, hn⟩, β, ρ1, F1, ob, b1.pre nb, er2, ?_⟩
          cases ob with
          | nx ρ3 =>
            intro σ' H' F' q
            obtain ⟨F4, q4⟩ := ((b1.then_ q).mono sub3).kill (dead := dead)
            exact ⟨_, F4, q4, hw⟩
          | ct ρ3 =>
            intro σ' H' F' q
            obtain ⟨F4, q4⟩ := ((b1.then_ q).mono sub3).kill (dead := dead)
            exact ⟨_, F4, q4, hw⟩
          | bk ρ3 =>
            have hw : some (Out.nx (PF.kill ρ3 dead)) = some o := hw
            cases hw
            intro σ' H' F' q
            obtain ⟨F4, q4⟩ := ((b1.then_ q).mono sub3).kill (dead := dead)
            exact mo σ' H' F4 q4
          | rt d ρ3 =>
            have hw : some (Out.rt d ρ3) = some o := hw
            cases hw
            intro v σ' H' F' G q
            exact mo v σ' H' F' G ((b1.thenR q).mono sub3)
    · rename_i ρ1 e1
      cases hw
      refine (b.pre nb).test e1 fun H1 F1 h1 => ite_ff ?_
      exact mo σi H1 F1 ((b.then_ h1).mono fun jj hj => by simpa using hj)
    · cases hw
end
end PF

set_option Elab.async false
set_option linter.all false
set_option maxRecDepth 100000
/-! PF24: from the text to the interpreter's statements -/
namespace PF
open PySem PySem.Spec PyProof.Rows L2
def isStarE : Expr → Bool
  | .Starred .. => true
  | _ => false
def nameAt (sc : Scope) (line : Nat) : Expr → Option Str
  | .Name id pos => if sc.names.lookup id == some .local && pos.line == line then some id else none
  | _ => none
/-- does a display's tuple go to its names from the right -/
def swC (sc : Scope) (ts vs : List Expr) : Option (Option (List Str)) :=
  if (!(ts.length == 2 || ts.length == 3) || vs.length != ts.length) = true then some none else
  if vs.any isStarE = true then some none else
  if ((ts.filterMap (nameAt sc ((ts.head?.map (·.pos.line)).getD 0))).length != ts.length || (ts.filterMap (nameAt sc ((ts.head?.map (·.pos.line)).getD 0))).eraseDups.length != (ts.filterMap (nameAt sc ((ts.head?.map (·.pos.line)).getD 0))).length) = true then some none else
  if vs.all (foldedForSure 8) = true then some none else
  if vs.all (constantsAlone 8) = true then none else some (some (ts.filterMap (nameAt sc ((ts.head?.map (·.pos.line)).getD 0))))
theorem swC_ok {sc : Scope} {ts vs : List Expr} {k k2 : Nat} {p p2 : Pos} {env : Env} {r : Option (List Str)} (hs : env.scope = sc) (hk : sc.kind = .function) (h : swC sc ts vs = some r) : swappedStores [.Tuple ts k p] (.Tuple vs k2 p2) env = pure r := by
  subst hs
  have hb : env.blockKind = .function := by unfold Env.blockKind; rw [hk]; rfl
  have hn : (fun e => match e with
    | .Name id pos => if env.kindOf id == some .local && pos.line == (ts.head?.map (·.pos.line)).getD 0 then some id else none
    | _ => none) = nameAt env.scope ((ts.head?.map (·.pos.line)).getD 0) := by
    funext e
    cases e <;> rfl
  have hst : (fun e => match e with
    | .Starred .. => true
    | _ => false) = isStarE := by
    funext e
    cases e <;> rfl
  unfold swC at h
  have key : swappedStores [.Tuple ts k p] (.Tuple vs k2 p2) env = (if (!(ts.length == 2 || ts.length == 3) || vs.length != ts.length || env.blockKind != .function) = true then pure none else
      if vs.any isStarE = true then pure none else
      if ((ts.filterMap (nameAt env.scope ((ts.head?.map (·.pos.line)).getD 0))).length != ts.length || (ts.filterMap (nameAt env.scope ((ts.head?.map (·.pos.line)).getD 0))).eraseDups.length != (ts.filterMap (nameAt env.scope ((ts.head?.map (·.pos.line)).getD 0))).length) = true then pure none else
      if vs.all (foldedForSure 8) = true then pure none else
      if vs.all (constantsAlone 8) = true then unsupported "assign.tuple-of-constant-expressions:order-of-the-stores" else pure (some (ts.filterMap (nameAt env.scope ((ts.head?.map (·.pos.line)).getD 0))))) := by
    unfold swappedStores
    rw [← hn, ← hst]
    rfl
  rw [key]
  have hb2 : (env.blockKind != .function) = false := by rw [hb]; rfl
  rw [hb2, Bool.or_false]
  rcases ite_cases h with ⟨c, h⟩ | ⟨c, h⟩
  · rw [if_pos c]; cases h; rfl
  rw [if_neg c]
  rcases ite_cases h with ⟨c, h⟩ | ⟨c, h⟩
  · rw [if_pos c]; cases h; rfl
  rw [if_neg c]
  rcases ite_cases h with ⟨c, h⟩ | ⟨c, h⟩
  · rw [if_pos c]; cases h; rfl
  rw [if_neg c]
  rcases ite_cases h with ⟨c, h⟩ | ⟨c, h⟩
  · rw [if_pos c]; cases h; rfl
  rw [if_neg c]
  rcases ite_cases h with ⟨c, h⟩ | ⟨c, h⟩
  · cases h
  rw [if_neg c]
  cases h; rfl
def isCompE : Expr → Bool
  | .ListComp .. => true | .SetComp .. => true | .DictComp .. => true
  | _ => false
def isTuplE : Expr → Bool
  | .Tuple .. => true
  | _ => false
def lcl (sc : Scope) (x : Str) : Bool := decide (sc.names.lookup x = some .local)
/-- does a comprehension's list go straight to the name -/
def swE (sc : Scope) (y : Str) (py : Pos) : Expr → Bool
  | .ListComp _ _ scope pos => lcl sc y && (py.line == pos.line) && !(scope.names.any fun z => z.1 == y && (z.2 == .local || z.2 == .cell))
  | _ => false
def deadOf (dd : List (Nat × List Nat)) (l : Nat) : List Nat := (dd.lookup l).getD []
/-- a[i][j], b[k][l] = .. -/
def strM (Δ : Ctx) (m : Nat) (sc : Scope) : List Expr → Ex → St
  | [.Subscript (.Subscript (.Name y _) ie _) je _, .Subscript (.Subscript (.Name z _) ke _) le _], x => if (visB sc y && okNm y) = true then if (visB sc z && okNm z) = true then match ixOf y Δ.N, strip Δ m sc ie, strip Δ m sc je, ixOf z Δ.N, strip Δ m sc ke, strip Δ m sc le with
      | some i, some u, some w, some i2, some u2, some w2 => match ie with
        | .Slice .. => .fail
        | _ => match ke with
          | .Slice .. => .fail
          | _ => .asgM [.s2 i u w, .s2 i2 u2 w2] x
      | _, _, _, _, _, _ => .fail
      else .fail else .fail
  | _, _ => .fail
/-- a def's statement; what is not read comes to nothing -/
def stripS (Δ : Ctx) (dd : List (Nat × List Nat)) (m : Nat) : Nat → Scope → Stmt → St
  | 0, _, _ => .fail
  | n + 1, sc, s => match s with
    | .Return none _ => .retN
    | .Return (some e) _ => match strip Δ m sc e with
      | some x => .ret x
      | none => .fail
    | .Assign [.Name y py] e _ => match slotS Δ sc (.Name y py), strip Δ m sc e with
      | some (_, i), some x => .asg i x
      | _, _ => .fail
    | .Assign [.Tuple ts k p] e _ => if isTuplE e then match e with
        | .Tuple vs _ _ => match swC sc ts vs with
          | some none => match tgS Δ sc (.Tuple ts k p), strip Δ m sc e with
            | some (.many is, _), some x => .asgT is x
            | _, _ => match strip Δ m sc e with
              | some x => strM Δ m sc ts x
              | none => .fail
          | some (some ns) => match ts, vs with
            | [.Name y py, .Name z pz], [a, b] => if ns = [y, z] ∧ lcl sc y ∧ lcl sc z then match slotS Δ sc (.Name y py), slotS Δ sc (.Name z pz), strip Δ m sc a, strip Δ m sc b with
              | some (_, i), some (_, j), some x, some u => if i ≠ j then .asgT [i, j] (.tup [x, u]) else .fail
              | _, _, _, _ => .fail
              else .fail
            | [.Name y py, .Name z pz, .Name w pw], [a, b, c] => if ns = [y, z, w] ∧ lcl sc y ∧ lcl sc z ∧ lcl sc w then match slotS Δ sc (.Name y py), slotS Δ sc (.Name z pz), slotS Δ sc (.Name w pw), optL (strip Δ m sc) [a, b, c] with
              | some (_, i), some (_, j), some (_, l), some xs => if i ≠ j ∧ i ≠ l ∧ j ≠ l then .asgT [i, j, l] (.tup xs) else .fail
              | _, _, _, _ => .fail
              else .fail
            | _, _ => .fail
          | none => .fail
        | _ => .fail
      else match tgS Δ sc (.Tuple ts k p), strip Δ m sc e with
        | some (.many is, _), some x => .asgT is x
        | _, _ => .fail
    | .Assign [.Subscript (.Name y py) ie _] e _ => if visB sc y && okNm y then match ixOf y Δ.N, strip Δ m sc ie, strip Δ m sc e with
      | some i, some u, some x => .asg1 (.s1 i u) x
      | _, _, _ => .fail
      else .fail
    | .Assign [.Subscript (.Subscript (.Name y py) ie _) je _] e _ => if visB sc y && okNm y then match ixOf y Δ.N, strip Δ m sc ie, strip Δ m sc je, strip Δ m sc e with
      | some i, some u, some w, some x => match ie with
        | .Slice .. => .fail
        | _ => .asg1 (.s2 i u w) x
      | _, _, _, _ => .fail
      else .fail
    | .AugAssign (.Name y py) op e _ => match slotS Δ sc (.Name y py), ipO op, strip Δ m sc e with
      | some (_, i), some o, some x => .aug i o x
      | _, _, _ => .fail
    | .Expr (.Constant (.str _) _ _) _ => .pass
    | .Expr (.Call (.Attribute (.Name y py) f apos) [e] [] cpos) _ =>
      if f = "append" then (if visB sc y && okNm y && (apos.endLine == cpos.line) then match ixOf y Δ.N, strip Δ m sc e with
        | some i, some x => .app i x
        | _, _ => .fail
        else .fail)
      else if f = "extend" then (if visB sc y && okNm y && (apos.endLine == cpos.line) then match ixOf y Δ.N, strip Δ m sc e with
        | some i, some x => .ext i x
        | _, _ => .fail
        else .fail)
      else .fail
    | .Expr e _ => if isCompE e then .fail else match strip Δ m sc e with
      | some x => .exp x
      | none => .fail
    | .If c a b _ => match strip Δ m sc c with
      | some x => .ite x (a.map (stripS Δ dd m n sc)) (b.map (stripS Δ dd m n sc))
      | none => .fail
    | .For tg iter body [] pos => match tgS Δ sc tg, iterS Δ sc (strip Δ m sc) (isTupE tg) iter with
      | some (t, _), some (k, src) => .for_ t k src (body.map (stripS Δ dd m n sc)) (deadOf dd pos.line)
      | _, _ => .fail
    | .While c body [] pos => match strip Δ m sc c with
      | some x => .whl x (body.map (stripS Δ dd m n sc)) (deadOf dd pos.line)
      | none => .fail
    | .Pass _ => .pass
    | .Break _ => .brk
    | .Continue _ => .cnt
    | _ => .fail
end PF

set_option Elab.async false
set_option linter.all false
set_option maxRecDepth 100000
/-! PF25: the text's statements do as the interpreter says -/
namespace PF
open PySem PySem.Spec PyProof.Rows L2
section
variable {X : Cx} {Δ : Ctx} {Γ : List CT} {sc : Scope}
structure OkD (X : Cx) (Δ : Ctx) (Γ : List CT) (sc : Scope) : Prop where
  ok : Ok X Δ Γ
  hs : X.env.scope = sc
  kd : sc.kind = .function
  fn : ∀ x, X.fn x = true
  po : PassesOwn (model X.prog X.w) X.A X.env X.xe
theorem PSi {s : Stmt} {t t' : TS} (h : PS X s t) (i : ∀ D σ H, t' D σ H → t D σ H) : PS X s t' := ⟨fun pins s σ H D I q => h.run pins s σ H D I (i _ _ _ q)⟩
theorem PSsi {s : List Stmt} {t t' : TS} (h : PSs X s t) (i : ∀ D σ H, t' D σ H → t D σ H) : PSs X s t' := ⟨fun pins s σ H D I q => h.run pins s σ H D I (i _ _ _ q)⟩
theorem comp_data {n : Nat} {elt tg iter : Expr} {ifs : List Expr} {scope : Scope} {pos : Pos} {x : Ex} (ok : Ok X Δ Γ) (hs : X.env.scope = sc) (h : strip Δ (n + 1) sc (.ListComp elt [⟨tg, iter, ifs, 0⟩] scope pos) = some x) :
    ∃ t own k src cs ex, x = .comp ex t k src cs ∧ own.map (·.2) = t.own ∧ PI X tg iter (xI Γ X.K k src) ∧ BlkOk X.N X.env.scope scope own ∧
      (∀ (s : Shared) (H : Hp) (C : Addr) (cl : List (Str × Addr)) (fp : List Addr), PG (X.blk s H scope (compEnvC scope cl C X.env) fp) tg (gT X.K t)) ∧
      (∀ (s : Shared) (H : Hp) (C : Addr) (cl : List (Str × Addr)) (fp : List Addr), PTs (X.blk s H scope (compEnvC scope cl C X.env) fp) ifs (tT Γ X.K cs)) ∧
      (∀ (s : Shared) (H : Hp) (C : Addr) (cl : List (Str × Addr)) (fp : List Addr), PE (X.blk s H scope (compEnvC scope cl C X.env) fp) elt (xE Γ X.K ex)) ∧ ∀ x, foldedSetIterable iter X.env x = pure x := by
  have st : ∀ e x, strip Δ n sc e = some x → noStar e = true := fun e x h => strip_star h
  have ih := strip_ok Δ Γ n sc X ok hs
  simp only [strip] at h
  split at h
  · rename_i t own e1
    split at h
    · rename_i hb
      simp only [Bool.and_eq_true, decide_eq_true_eq] at hb
      split at h
      · rename_i k src cs x e2 e3 e4
        cases h
        have bo : BlkOk X.N X.env.scope scope own := blkOk_by (by rw [ok.N, hs]; exact hb.1)
        have hloc : ∀ x, locB scope x = true → Loc (relS scope X.env.scope) x := fun x hx => by
          rcases locB_of hx with z | z
          · exact .inl (lookup_relS_keep (by decide) z)
          · exact .inr (lookup_relS_keep (by decide) z)
        have hfn : ∀ x, locB scope x = true → ((scope.names.lookup x == some NameKind.cell) = true ∨ (relS scope X.env.scope).names.lookup x = some .local) := fun x hx => by
          rcases locB_of hx with z | z
          · exact .inr (lookup_relS_keep (by decide) z)
          · refine .inl ?_; rw [z]; rfl
        have sub := fun (s : Shared) (H : Hp) (C : Addr) (cl : List (Str × Addr)) (fp : List Addr) => strip_ok Δ Γ n (relS scope sc) (X.blk s H scope (compEnvC scope cl C X.env) fp) (ok.blk s H scope _ fp) (by rw [← hs]; rfl)
        refine ⟨t, own, k, src, cs, x, rfl, slots_own e1, iter_ok ok hs ih st e2, bo, fun s H C cl fp => ?_, fun s H C cl fp => ?_, fun s H C cl fp => (sub s H C cl fp elt x e4).1, noSet e2 X.env⟩
        · exact (tg_pg (X := X.blk s H scope (compEnvC scope cl C X.env) fp) ok.calm ok.N ok.nd e1 hloc hfn).1
        · cases ifs with
          | nil => cases e3; exact pts_nil
          | cons c r =>
            cases r with
            | cons _ _ => simp at hb
            | nil =>
              simp only [optL] at e3
              split at e3
              · rename_i y ys h1 h2
                cases h2
                cases e3
                exact pts_one (sub s H C cl fp c y h1).2
              · cases e3
      · cases h
    · cases h
  · cases h
theorem pss_ok {f : Stmt → St} (h : ∀ s, PS X s (xS Γ X.K (f s))) : ∀ ss : List Stmt, PSs X ss (xB Γ X.K (ss.map f))
  | [] => PSsi pss_nil fun _ _ _ q => b_nil q
  | s :: ss => PSsi (pss_cons (h s) (pss_ok h ss)) fun _ _ _ q => b_cons q
theorem ps_fail {s : Stmt} : PS X s (xS Γ X.K .fail) := PSi ps_never fun _ _ _ q => s_fail q
theorem sw_not {e : Expr} {t : Option Expr} {l : Nat} {env : Env} (h : isCompE e = false) : swapsWith e t l env = pure false := by
  cases e <;> first | rfl | cases h
theorem sw_eq {elt : Expr} {gs : List Comprehension} {scope : Scope} {pos py : Pos} {y : Str} {l : Nat} {env : Env} :
    swapsWith (.ListComp elt gs scope pos) (some (.Name y py)) l env = pure (env.blockKind == .function && env.kindOf y == some .local && py.line == pos.line && !(scope.names.any fun z => z.1 == y && (z.2 == .local || z.2 == .cell))) := rfl
theorem noStore {tg e : Expr} {env : Env} (h : isTuplE tg = false) (h2 : ∀ es p, tg ≠ .List es p) : swappedStores [tg] e env = pure none := by
  cases tg <;> first | rfl | exact absurd rfl (h2 _ _) | cases h
theorem noStoreV {tg e : Expr} {env : Env} (h : isTuplE e = false) : swappedStores [tg] e env = pure none := by
  cases e <;> first | (cases tg <;> rfl) | cases h
theorem one_eq {tg : Expr} {env : Env} (h : noStar tg = true) : (assignEach [tg] env).map (·.2) = [assign tg env] := by
  cases tg <;> first | rfl | cases h
theorem slot_at {e : Expr} {x : Str} {i : Nat} (h : slotS Δ sc e = some (x, i)) : ∃ p, e = .Name x p ∧ locB sc x = true ∧ ixOf x Δ.N = some i := by
  unfold slotS at h
  split at h
  · rename_i y p
    split at h
    · rename_i hb
      cases e1 : ixOf y Δ.N with
      | none => rw [e1] at h; cases h
      | some j => rw [e1] at h; cases h; exact ⟨p, rfl, hb, e1⟩
    · cases h
  · cases h
theorem strip_comp {n : Nat} {elt : Expr} {gs : List Comprehension} {scope : Scope} {pos : Pos} {x : Ex} (h : strip Δ n sc (.ListComp elt gs scope pos) = some x) : ∃ m tg iter ifs, n = m + 1 ∧ gs = [⟨tg, iter, ifs, 0⟩] := by
  cases n with
  | zero => cases h
  | succ m =>
    unfold strip at h
    split at h <;> first | (rename_i heq; cases heq; exact ⟨m, _, _, _, rfl, rfl⟩) | cases h | skip
    all_goals first | cases h | (rename_i heq; cases heq)
/-- name = e -/
theorem asg_ok {m : Nat} {y : Str} {py pos : Pos} {e : Expr} {i : Nat} {x : Ex} (o : OkD X Δ Γ sc) (h1 : slotS Δ sc (.Name y py) = some (y, i)) (h2 : strip Δ m sc e = some x) : PS X (.Assign [.Name y py] e pos) (xS Γ X.K (.asg i x)) := by
  obtain ⟨p', ep, hl, hi⟩ := slot_at h1
  cases ep
  have pg : PG X (.Name y py) (gName i) := slot_pg o.ok.N o.ok.nd h1 (fun h => by rw [o.hs]; exact locB_of h) (fun _ => .inl (o.fn _))
  have g := strip_ok Δ Γ m sc X o.ok o.hs e x h2
  cases hsw : swE sc y py e with
  | false =>
    refine PSi (ps_asg g.1 pg ?_ (noStore rfl fun _ _ z => nomatch z) rfl) fun _ _ _ q => s_asg q
    show swapsWith e (some (.Name y py)) pos.line X.env = pure false
    cases hc : isCompE e with
    | false => exact sw_not hc
    | true =>
      cases e <;> first | cases hc | skip
      · rename_i elt gs scope cpos
        rw [sw_eq]
        have : X.env.blockKind = .function := by unfold Env.blockKind; rw [o.hs, o.kd]; rfl
        simp only [swE, lcl] at hsw
        have hk : X.env.kindOf y = sc.names.lookup y := by show X.env.scope.names.lookup y = _; rw [o.hs]
        rw [this, hk]
        congr 1
        have e1 : (sc.names.lookup y == some NameKind.local) = decide (sc.names.lookup y = some .local) := by
          cases hh : decide (sc.names.lookup y = some NameKind.local) with
          | true => rw [of_decide_eq_true hh]; rfl
          | false => exact beq_eq_false_iff_ne.mpr (of_decide_eq_false hh)
        rw [e1]
        simpa using hsw
      · cases m <;> simp [strip] at h2
      · cases m <;> simp [strip] at h2
  | true =>
    cases e <;> first | cases hsw | skip
    rename_i elt gs scope cpos
    obtain ⟨m', tg, iter, ifs, rfl, rfl⟩ := strip_comp h2
    obtain ⟨t, own, k, src, cs, ex, rfl, how, hpi, bo, hg, ht, he, hset⟩ := comp_data o.ok o.hs h2
    simp only [swE, lcl, Bool.and_eq_true, decide_eq_true_eq] at hsw
    obtain ⟨⟨w1, w2⟩, w3⟩ := hsw
    have hyl : X.env.scope.names.lookup y = some .local := by rw [o.hs]; exact w1
    have hsw' : swapsWith (.ListComp elt [⟨tg, iter, ifs, 0⟩] scope cpos) (some (.Name y py)) pos.line X.env = pure true := by
      rw [sw_eq]
      have b1 : X.env.blockKind = .function := by unfold Env.blockKind; rw [o.hs, o.kd]; rfl
      have hk : X.env.kindOf y = some .local := hyl
      rw [b1, hk, w2, w3]
      rfl
    refine PSi (ps_setLc (i := i) o.ok.calm o.ok.nd (by rw [o.ok.N]; exact ixOf_get hi) hyl hsw' hpi bo hg ht he hset) fun D σ H q => ?_
    have q := s_asg q
    rw [how]
    exact x_comp q
theorem lcl_of {y : Str} (o : OkD X Δ Γ sc) (h : lcl sc y = true) : X.env.scope.names.lookup y = some .local := by
  rw [o.hs]; exact of_decide_eq_true h
theorem slot_N {e : Expr} {y : Str} {i : Nat} (o : OkD X Δ Γ sc) (h : slotS Δ sc e = some (y, i)) : X.N[i]? = some y := by
  obtain ⟨_, _, _, hi⟩ := slot_at h
  rw [o.ok.N]; exact ixOf_get hi
theorem tgD {tg : Expr} {t : Tg} {own : List (Str × Nat)} (o : OkD X Δ Γ sc) (h : tgS Δ sc tg = some (t, own)) : PG X tg (gT X.K t) :=
  (tg_pg o.ok.calm o.ok.N o.ok.nd h (fun x hx => by rw [o.hs]; exact locB_of hx) fun x _ => .inl (o.fn x)).1
/-- names = e -/
theorem asgT_ok {m : Nat} {ts : List Expr} {k : Nat} {p pos : Pos} {e : Expr} {is : List Nat} {own : List (Str × Nat)} {x : Ex} (o : OkD X Δ Γ sc) (h1 : tgS Δ sc (.Tuple ts k p) = some (.many is, own)) (h2 : strip Δ m sc e = some x) (hw : swappedStores [.Tuple ts k p] e X.env = pure none) :
    PS X (.Assign [.Tuple ts k p] e pos) (xS Γ X.K (.asgT is x)) :=
  PSi (ps_asg (strip_ok Δ Γ m sc X o.ok o.hs e x h2).1 (tgD o h1) (by cases e <;> rfl) hw rfl) fun _ _ _ q => s_asgT q
theorem var_pe {y : Str} {py : Pos} {i : Nat} (o : OkD X Δ Γ sc) (h : (visB sc y && okNm y) = true) (hi : ixOf y Δ.N = some i) : PE X (.Name y py) (tVar i) := by
  simp only [Bool.and_eq_true] at h
  obtain ⟨hd, hcd, _⟩ := okNm_of h.2
  exact pe_var (by rw [o.ok.N]; exact ixOf_get hi) (by rw [o.hs]; exact visB_of h.1) hd hcd
theorem s_asg1a {Γ : List CT} {K : PySem.W.Frag} {i : Nat} {ie x : Ex} {D : Ends} {σ : L2.St} {H : Hp} (h : xS Γ K (.asg1 (.s1 i ie) x) D σ H) : tAsg (xE Γ K x) (gSub (xE Γ K (.nm i)) (xE Γ K ie) rSetL) D σ H := by
  obtain ⟨β, ρ, F, oo, p, er, mo⟩ := h
  simp only [run] at er
  split at er
  · rename_i d ρ1 e1
    cases e2 : store Γ d ρ1 (.s1 i ie) with
    | none => rw [e2] at er; cases er
    | some ρ2 =>
      rw [e2] at er; cases er
      refine p.own e1 fun v H1 F1 G h1 => g_s1 (p.nb rfl) h1.eo h1.ow h1.nd e2 fun H2 F2 eo nd st => mo σ H2 F2 ⟨eo, nd, ?_, .refl _⟩
      exact (h1.st.trans (F1 := F1 ++ G) (fun a ha => ha) st id).sub fun a ha => List.mem_append_right _ ha
  · cases er
theorem s_asg1b {Γ : List CT} {K : PySem.W.Frag} {i : Nat} {ie je x : Ex} {D : Ends} {σ : L2.St} {H : Hp} (h : xS Γ K (.asg1 (.s2 i ie je) x) D σ H) : tAsg (xE Γ K x) (gSub (tOp (rIx K) (xE Γ K (.nm i)) (xE Γ K ie)) (xE Γ K je) rSetL) D σ H := by
  obtain ⟨β, ρ, F, oo, p, er, mo⟩ := h
  simp only [run] at er
  split at er
  · rename_i d ρ1 e1
    cases e2 : store Γ d ρ1 (.s2 i ie je) with
    | none => rw [e2] at er; cases er
    | some ρ2 =>
      rw [e2] at er; cases er
      refine p.own e1 fun v H1 F1 G h1 => g_s2 (p.nb rfl) h1.eo h1.ow h1.nd e2 fun H2 F2 eo nd st => mo σ H2 F2 ⟨eo, nd, ?_, .refl _⟩
      exact (h1.st.trans (F1 := F1 ++ G) (fun a ha => ha) st id).sub fun a ha => List.mem_append_right _ ha
  · cases er
theorem bm_ok {m : Nat} {y f : Str} {py apos cpos pos : Pos} {e : Expr} {i : Nat} {x : Ex} {id : String} {rr : V → List V → Hp → VK → Prop} (o : OkD X Δ Γ sc) (h : (visB sc y && okNm y && (apos.endLine == cpos.line)) = true) (hi : ixOf y Δ.N = some i) (h2 : strip Δ m sc e = some x)
    (sl : Slot "list" f id) (hty : typeOf (.builtin id) = pure (.type "method_descriptor")) (hm : MtR X id rr) :
    PS X (.Expr (.Call (.Attribute (.Name y py) f apos) [e] [] cpos) pos) (tDrop (tBM X.K "list" rr (tVar i) (tCons (xE Γ X.K x) tNil))) := by
  simp only [Bool.and_eq_true] at h
  have st := strip_star h2
  have hs := star1 (es := []) (env := X.env) st
  refine ps_expr (pe_bm PySem.F.plainAttrs_list sl hty hm (var_pe o (by simp only [Bool.and_eq_true]; exact h.1) hi) (pa_cons (strip_ok Δ Γ m sc X o.ok o.hs e x h2).1 pa_nil hs) rfl ?_ h.2 hs rfl) rfl
  rw [hs]; rfl
theorem strip_noSl {m : Nat} {e : Expr} {x : Ex} (h : strip Δ m sc e = some x) : ∀ l u s p, e ≠ .Slice l u s p := by
  rintro l u s p rfl
  cases m with
  | zero => cases h
  | succ m => simp only [strip] at h; cases h
theorem asg_sub {oe i : Expr} {pos : Pos} {env : Env} (h : ∀ l u s p, i ≠ .Slice l u s p) (v : Value) : assign (.Subscript oe i pos) env v = (do
      let ov ← holding [v] (eval oe env)
      let iv ← holding [v, ov] (eval i env)
      standAt pos
      holding [v, ov, iv] (setItem ov iv v)
      release [v, ov, iv] []) := by
  cases i <;> first | rfl | exact absurd rfl (h _ _ _ _)
theorem s_asgM2 {Γ : List CT} {K : PySem.W.Frag} {i i2 : Nat} {ie je ie2 je2 x : Ex} {D : Ends} {σ : L2.St} {H : Hp} (h : xS Γ K (.asgM [.s2 i ie je, .s2 i2 ie2 je2] x) D σ H) :
    tAsg (xE Γ K x) (gTup K 2 (gCons (gSub (tOp (rIx K) (xE Γ K (.nm i)) (xE Γ K ie)) (xE Γ K je) rSetL) (gCons (gSub (tOp (rIx K) (xE Γ K (.nm i2)) (xE Γ K ie2)) (xE Γ K je2) rSetL) gNil))) D σ H := by
  obtain ⟨β, ρ, F, oo, p, er, mo⟩ := h
  simp only [run] at er
  split at er
  · rename_i us ρ1 e1
    cases e2 : stores Γ ρ1 [.s2 i ie je, .s2 i2 ie2 je2] (us.map PF.D.p) with
    | none => rw [e2] at er; cases er
    | some ρ2 =>
      rw [e2] at er; cases er
      match us, e1, e2 with
      | [], e1, e2 => simp [stores] at e2
      | [_], e1, e2 =>
        simp only [stores, List.map_cons, List.map_nil] at e2
        split at e2 <;> cases e2
      | [u1, u2], e1, e2 =>
        simp only [stores, List.map_cons, List.map_nil] at e2
        split at e2
        · rename_i ρ3 e3
          split at e2
          · rename_i ρ4 e4
            cases e2
            refine p.own e1 fun v H1 F1 G h1 => ?_
            have ow := h1.ow
            have nd := h1.nd
            have st0 := h1.st
            cases ow with
            | p hr =>
              cases hr with
              | tup hq rs =>
                cases rs with
                | cons r1 rs =>
                  cases rs with
                  | cons r2 rs =>
                    cases rs
                    refine ⟨_, _, rfl, hq.t, rfl, _, _, rfl, ?_⟩
                    refine g_s2 (p.nb rfl) h1.eo (.p r1) nd e3 fun H2 F2 eo nd2 st => ?_
                    refine ⟨_, _, rfl, ?_⟩
                    have r2' : OW K H2 _ (.p u2) [] := OW.behind (F1 := F1 ++ []) (.p r2) (by simpa using nd) (by simpa using h1.eo.mt) st
                    refine g_s2 (p.nb rfl) eo r2' (by simpa using nd2) e4 fun H3 F3 eo3 nd3 st3 => ?_
                    refine ⟨rfl, mo σ H3 F3 ⟨eo3, nd3, ?_, .refl _⟩⟩
                    have s1 := (st0.trans (F1 := F1 ++ []) (fun a ha => ha) st id).sub (B := F2) fun a ha => List.mem_append_right _ ha
                    exact (s1.trans (F1 := F2 ++ []) (fun a ha => by simpa using ha) st3 id).sub fun a ha => List.mem_append_right _ ha
          · cases e2
        · cases e2
      | _ :: _ :: _ :: _, e1, e2 =>
        simp only [stores, List.map_cons] at e2
        split at e2
        · split at e2 <;> cases e2
        · cases e2
  · cases er
theorem strM_ok {m : Nat} {ts : List Expr} {k : Nat} {p pos : Pos} {e : Expr} {x : Ex} (o : OkD X Δ Γ sc) (h2 : strip Δ m sc e = some x) (hw : swappedStores [.Tuple ts k p] e X.env = pure none) :
    PS X (.Assign [.Tuple ts k p] e pos) (xS Γ X.K (strM Δ m sc ts x)) := by
  have ex := fun e x => strip_ok Δ Γ m sc X o.ok o.hs e x
  unfold strM
  split
  · rename_i x' y py ie p1 je p2 z pz ke p3 le p4
    split
    · rename_i hv
      split
      · rename_i hv2
        split
        · rename_i i u w i2 u2 w2 e1 e2 e3 e4 e5 e6
          split
          · exact ps_fail
          · rename_i hns
            split
            · exact ps_fail
            · rename_i hns2
              have pn : PE X (.Name y py) (xE Γ X.K (.nm i)) := PEi (var_pe o hv e1) fun _ _ _ q => x_nm q
              have pn2 : PE X (.Name z pz) (xE Γ X.K (.nm i2)) := PEi (var_pe o hv2 e4) fun _ _ _ q => x_nm q
              exact PSi (ps_asg (ex _ _ h2).1 (pg_tup o.ok.calm (pgs_cons (pg_sub (pe_ix ix_seq pn (ex _ _ e2).1 (plainIx fun l u p ee => hns _ _ _ _ ee)) (ex _ _ e3).1 set_list (asg_sub (strip_noSl e3))) (pgs_cons (pg_sub (pe_ix ix_seq pn2 (ex _ _ e5).1 (plainIx fun l u p ee => hns2 _ _ _ _ ee)) (ex _ _ e6).1 set_list (asg_sub (strip_noSl e6))) pgs_nil))) (by cases e <;> rfl) hw rfl) fun _ _ _ q => s_asgM2 q
        · exact ps_fail
      · exact ps_fail
    · exact ps_fail
  · exact ps_fail
theorem stripS_ok (dd : List (Nat × List Nat)) (m : Nat) (o : OkD X Δ Γ sc) : ∀ (n : Nat) (s : Stmt), PS X s (xS Γ X.K (stripS Δ dd m n sc s)) := by
  intro n
  induction n with
  | zero => intro s; exact ps_fail
  | succ n ih =>
    intro s
    have ex := fun e x => strip_ok Δ Γ m sc X o.ok o.hs e x
    unfold stripS
    split
    · exact PSi ps_retN fun _ _ _ q => s_retN q
    · split
      · rename_i e1; exact PSi (ps_ret (ex _ _ e1).1) fun _ _ _ q => s_ret q
      · exact ps_fail
    · split
      · rename_i y' i x e1 e2
        obtain ⟨p', ep, _, _⟩ := slot_at e1
        cases ep
        exact asg_ok o e1 e2
      · exact ps_fail
    · rename_i ts k p e pos
      split
      · rename_i ht
        split
        · rename_i vs k2 p2
          split
          · rename_i e1
            split
            · rename_i is own x e2 e3
              exact asgT_ok o e2 e3 (swC_ok o.hs o.kd e1)
            · split
              · rename_i x e2
                exact strM_ok o e2 (swC_ok o.hs o.kd e1)
              · exact ps_fail
          · rename_i ns e1
            have hw := swC_ok (k := k) (k2 := k2) (p := p) (p2 := p2) o.hs o.kd e1
            split
            · rename_i y py z pz a b
              split
              · rename_i hc
                obtain ⟨rfl, l1, l2⟩ := hc
                split
                · rename_i y' i z' j x u e2 e3 e4 e5
                  obtain ⟨_, ep, _, _⟩ := slot_at e2
                  cases ep
                  obtain ⟨_, ep, _, _⟩ := slot_at e3
                  cases ep
                  split
                  · rename_i hij
                    have ha : PA X [a, b] (xL Γ X.K [x, u]) := pa_ok (f := strip Δ m sc) ex (fun e x h => strip_star h) (by simp only [optL, e4, e5])
                    refine PSi (ps_par o.ok.calm o.ok.nd (slot_N o e2) (slot_N o e3) hij (lcl_of o l1) (lcl_of o l2) ha hw rfl) fun D σ H q => ?_
                    obtain ⟨β, q', ρ, F, ds, ρ', pr, ee, kk⟩ := s_asgD q
                    refine ⟨β, q', ρ, F, ds, ρ', pr, ee, fun vs H' F' G h => ?_⟩
                    obtain ⟨v, r, e6, w, r2, e7, e8, hq⟩ := kk vs H' F' G h
                    subst e6 e7 e8
                    exact ⟨v, w, rfl, hq⟩
                  · exact ps_fail
                · exact ps_fail
              · exact ps_fail
            · rename_i y py z pz w pw a b c
              split
              · rename_i hc
                obtain ⟨rfl, l1, l2, l3⟩ := hc
                split
                · rename_i y' i z' j w' l xs e2 e3 e4 e5
                  obtain ⟨_, ep, _, _⟩ := slot_at e2
                  cases ep
                  obtain ⟨_, ep, _, _⟩ := slot_at e3
                  cases ep
                  obtain ⟨_, ep, _, _⟩ := slot_at e4
                  cases ep
                  split
                  · rename_i hij
                    have ha : PA X [a, b, c] (xL Γ X.K xs) := pa_ok (f := strip Δ m sc) ex (fun e x h => strip_star h) e5
                    refine PSi (ps_par3 o.ok.calm o.ok.nd (slot_N o e2) (slot_N o e3) (slot_N o e4) hij.1 hij.2.1 hij.2.2 (lcl_of o l1) (lcl_of o l2) (lcl_of o l3) ha hw rfl) fun D σ H q => ?_
                    obtain ⟨β, q', ρ, F, ds, ρ', pr, ee, kk⟩ := s_asgD q
                    refine ⟨β, q', ρ, F, ds, ρ', pr, ee, fun vs H' F' G h => ?_⟩
                    obtain ⟨v, r, e6, w, r2, e7, t, r3, e8, e9, hq⟩ := kk vs H' F' G h
                    subst e6 e7 e8 e9
                    exact ⟨v, w, t, rfl, hq⟩
                  · exact ps_fail
                · exact ps_fail
              · exact ps_fail
            · exact ps_fail
          · exact ps_fail
        · exact ps_fail
      · rename_i ht
        split
        · rename_i is own x e1 e2
          exact asgT_ok o e1 e2 (noStoreV (by simpa using ht))
        · exact ps_fail
    · rename_i y py ie p e pos
      split
      · rename_i hv
        split
        · rename_i i u x e1 e2 e3
          have pn : PE X (.Name y py) (xE Γ X.K (.nm i)) := PEi (var_pe o hv e1) fun _ _ _ q => x_nm q
          exact PSi (ps_asg (ex _ _ e3).1 (pg_sub pn (ex _ _ e2).1 set_list (asg_sub (strip_noSl e2))) (by cases e <;> rfl) (noStore rfl fun _ _ z => nomatch z) rfl) fun _ _ _ q => s_asg1a q
        · exact ps_fail
      · exact ps_fail
    · rename_i y py ie p1 je p2 e pos
      split
      · rename_i hv
        split
        · rename_i i u w x e1 e2 e3 e4
          split
          · exact ps_fail
          · rename_i hns
            have pn : PE X (.Name y py) (xE Γ X.K (.nm i)) := PEi (var_pe o hv e1) fun _ _ _ q => x_nm q
            exact PSi (ps_asg (ex _ _ e4).1 (pg_sub (pe_ix ix_seq pn (ex _ _ e2).1 (plainIx fun l u p ee => hns _ _ _ _ ee)) (ex _ _ e3).1 set_list (asg_sub (strip_noSl e3))) (by cases e <;> rfl) (noStore rfl fun _ _ z => nomatch z) rfl) fun _ _ _ q => s_asg1b q
        · exact ps_fail
      · exact ps_fail
    · rename_i y py op e pos
      split
      · rename_i y' i oo x e1 e2 e3
        obtain ⟨_, ep, hl, hi⟩ := slot_at e1
        cases ep
        exact PSi (ps_aug o.ok.nd (slot_N o e1) (by rw [o.hs]; exact locB_of hl) (ex _ _ e3).1 (ip_ok e2) (.inl (o.fn _))) fun _ _ _ q => s_aug e2 q
      · exact ps_fail
    · exact PSi ps_doc fun _ _ _ q => s_pass q
    · rename_i y py f apos e cpos pos
      split
      · rename_i hf
        subst hf
        split
        · rename_i hv
          split
          · rename_i i x e1 e2
            exact PSi (bm_ok o hv e1 e2 PySem.F.slot_list_append PySem.F.type_list_append mt_append) fun _ _ _ q => s_app q
          · exact ps_fail
        · exact ps_fail
      · split
        · rename_i hf
          subst hf
          split
          · rename_i hv
            split
            · rename_i i x e1 e2
              exact PSi (bm_ok o hv e1 e2 PySem.F.slot_list_extend PySem.F.type_list_extend mt_extend) fun _ _ _ q => s_ext q
            · exact ps_fail
          · exact ps_fail
        · exact ps_fail
    · rename_i e pos _ _
      split
      · exact ps_fail
      · rename_i hc
        split
        · rename_i x e1
          exact PSi (ps_expr (ex _ _ e1).1 (sw_not (by simpa using hc))) fun _ _ _ q => s_exp q
        · exact ps_fail
    · split
      · rename_i x e1
        exact PSi (ps_if (ex _ _ e1).2 (pss_ok ih _) (pss_ok ih _)) fun _ _ _ q => s_ite q
      · exact ps_fail
    · rename_i tg iter body pos
      split
      · rename_i t own k src e1 e2
        exact PSi (ps_for o.po o.ok.calm (iter_ok o.ok o.hs ex (fun e x h => strip_star h) e2) (tgD o e1) (pss_ok ih _) (noSet e2 X.env)) fun _ _ _ q => s_for q
      · exact ps_fail
    · split
      · rename_i x e1
        exact PSi (ps_while o.po (ex _ _ e1).2 (pss_ok ih _)) fun _ _ _ q => s_whl q
      · exact ps_fail
    · exact PSi ps_pass fun _ _ _ q => s_pass q
    · exact PSi ps_break fun _ _ _ q => s_brk q
    · exact PSi ps_continue fun _ _ _ q => s_cnt q
    · exact ps_fail
end
end PF

set_option Elab.async false
set_option linter.all false
set_option maxRecDepth 100000
/-! PF26: defs -/
namespace PF
open PySem PySem.Spec PyProof.Rows L2
section
variable {K : PySem.W.Frag} {H H1 H2 H' : Hp} {β : List Bool} {σ σ' : L2.St} {ρ ρ' : List S} {F G : List Addr}
theorem EO.nos : ∀ n : Nat, EO K H (List.replicate n false) (List.replicate n none) (List.replicate n S.no) []
  | 0 => .nil
  | n + 1 => by
    rw [List.replicate_succ, List.replicate_succ, List.replicate_succ]
    exact .no (EO.nos n)
theorem EO.start {N : Nat} : ∀ {vs : List V} {ds : List D} {G : List Addr}, OWs K H vs ds G → EO K H (List.replicate (ds.length + N) false) (vs.map some ++ List.replicate N none) (ds.map S.val ++ List.replicate N S.no) G
  | _, _, _, .nil => by
    simp only [List.length_nil, Nat.zero_add, List.map_nil, List.nil_append]
    exact EO.nos N
  | _, d :: ds, _, .cons o h => by
    have e : (d :: ds).length + N = (ds.length + N) + 1 := by simp only [List.length_cons]; omega
    rw [e, List.replicate_succ]
    exact .val o (EO.start h)
theorem noB_rep (n : Nat) : noB (List.replicate n false) := fun b h => (List.mem_replicate.mp h).2
theorem left_put {st : List Nat} {i : Nat} {s : S} : ∀ {ds : List D} {k : Nat}, i < k → left st k ds (put ρ i s) = left st k ds ρ
  | [], _, _ => rfl
  | d :: ds, k, h => by
    simp only [left]
    rw [look_put_ne _ _ (by omega : k ≠ i), left_put (by omega)]
theorem bks_of {st : List Nat} : ∀ {vs : List V} {ds : List D} {i : Nat} {ρ : List S} {F : List Addr}, vs.length = ds.length → EO K H β σ ρ F → (∀ j v, vs[j]? = some v → i + j ∉ st → σ[i + j]? = some (some v)) →
    ∃ Gb, Bks K H vs (left st i ds ρ) Gb ∧ Sb Gb F
  | [], [], _, _, _, _, _, _ => ⟨[], .nil, fun a => by simp⟩
  | [], _ :: _, _, _, _, e, _, _ => by cases e
  | _ :: _, [], _, _, _, e, _, _ => by cases e
  | v :: vs, d :: ds, i, ρ, F, e, eo, h => by
    have hn : ∀ (j : Nat) (w : V), vs[j]? = some w → i + 1 + j ∉ st → σ[i + 1 + j]? = some (some w) := fun j w h1 h2 => by
      have := h (j + 1) w (by simpa using h1) (by rw [show i + (j + 1) = i + 1 + j by omega]; exact h2)
      rw [show i + (j + 1) = i + 1 + j by omega] at this
      exact this
    simp only [left]
    by_cases hc : (isP d || st.contains i) = true
    · rw [if_pos hc]
      obtain ⟨Gb, h1, h2⟩ := bks_of (vs := vs) (ds := ds) (i := i + 1) (by simpa using e) eo hn
      exact ⟨Gb, .none h1, h2⟩
    · rw [if_neg hc]
      have hst : i ∉ st := fun z => hc (by rw [Bool.or_eq_true]; exact .inr (by simpa using z))
      cases el : look ρ i with
      | val x =>
        obtain ⟨w, G, F', h1, h2, h3, h4⟩ := eo.val_at el
        have hv := h 0 v rfl (by simpa using hst)
        rw [Nat.add_zero] at hv
        rw [hv] at h1
        cases h1
        obtain ⟨Gb, h5, h6⟩ := bks_of (vs := vs) (ds := ds) (i := i + 1) (by simpa using e) h3 hn
        rw [left_put (by omega)] at h5
        exact ⟨_, .some h2 h5, fun a => by rw [ct_app]; have := h6 a; have := h4 a; omega⟩
      | no =>
        obtain ⟨Gb, h1, h2⟩ := bks_of (vs := vs) (ds := ds) (i := i + 1) (by simpa using e) eo hn
        exact ⟨Gb, .none h1, h2⟩
      | bor x =>
        obtain ⟨Gb, h1, h2⟩ := bks_of (vs := vs) (ds := ds) (i := i + 1) (by simpa using e) eo hn
        exact ⟨Gb, .none h1, h2⟩
end
/-- a def as it stands in the module -/
structure CalG (P : Program) (w : World) (K : PySem.W.Frag) (mg : Str → Option Value) (base : Heap) (k : Nat) (c : CT) (f : Str) where
  a : Addr
  fd : FuncData
  ps : List Str
  fn : FnOk P w K mg base CXn k a fd ps (spC K c)
  glob : mg f = some (.ref a)
  kp : PySem.W.keepIn K (.ref a) = true
  bi : Binds K fd ps []
/-- what the module gives a def -/
structure Env1 (P : Program) (w : World) (K : PySem.W.Frag) (mg : Str → Option Value) (base : Heap) (Δ : Ctx) (Γ : List CT) (k : Nat) : Prop where
  fs : ∀ (i : Nat) (f : Str), Δ.fs[i]? = some f → ∃ c, Γ[i]? = some c ∧ ∃ j, j ≤ k ∧ Nonempty (CalG P w K mg base j c f)
  gs : ∀ (x : Str) (t : T), Δ.gs.lookup x = some t → ∃ u v, mg x = some u ∧ RelV v u ∧ ∀ H, RT K H v t
  bl : ∀ b : Str, Δ.bl.contains b = true → mg b = none
theorem fn_ok {P : Program} {w : World} {K : PySem.W.Frag} {mg : Str → Option Value} {base : Heap} {k m n : Nat} {dd : List (Nat × List Nat)} {Δ : Ctx} {Γ : List CT} {f : Addr} {name qual : Str} {params : Arguments} {body : List Stmt} {scope : Scope} {dV kV doc pm cdv ct oc : Value} {an od : Option Addr}
    {osl : Array (Option Value)} {ps : List Str} (E1 : Env1 P w K mg base Δ Γ k) (lk : K.lookup f = some ⟨oc, od, .func (PySem.W.fnOf name qual params body scope dV kV doc pm an cdv ct), osl⟩) (hcd : PySem.W.codeIn K cdv qual = true) (S : FnScope Δ.N ps scope) :
    FnOk P w K mg base CXn (k + 1) f (PySem.W.fnOf name qual params body scope dV kV doc pm an cdv ct) ps (spC K (mk Γ Δ.N.length ps.length (body.map (stripS Δ dd m n scope)))) := by
  refine fn_of lk hcd S (fun vs H Q E ⟨ds, Gs, d, os, ow, nd, e, _⟩ => ?_) fun A outer s H vs Q E hr ⟨ds, Gs, d, os, ow, nd, e, kk⟩ => ?_
  · unfold mk at e
    split at e
    · rename_i hl
      rw [ow.len, hl]
    · cases e
  · refine ⟨xB Γ K (body.map (stripS Δ dd m n scope)), ?_, ?_⟩
    · have o : OkD (cxOf CXn P w K mg base Δ.N qual scope f cdv A outer s H E) Δ Γ scope := by
        refine ⟨⟨rfl, S.nd, rfl, ?_, fun i g h => ?_, E1.gs, E1.bl⟩, rfl, S.kind, fun _ => rfl, passes_of rfl⟩
        · have := hr.un
          show (A.deeper _).units + 65 < cLine
          omega
        · obtain ⟨c, h1, j, hj, ⟨l⟩⟩ := E1.fs i g h
          exact ⟨c, h1, ⟨⟨l.a, l.fd, l.ps, j, l.fn, hr.mono hj, l.glob, l.kp, l.bi⟩⟩⟩
      exact pss_ok (fun st => stripS_ok dd m o n st) body
    · unfold mk at e
      split at e
      · rename_i hl
        have hpl : ps.length ≤ Δ.N.length := by have := congrArg List.length S.pre; rw [List.length_take] at this; omega
        have eo : EO K H (List.replicate (ds.length + (Δ.N.length - ds.length)) false) (L2.start Δ.N vs) (startS Δ.N.length ds) Gs := by
          have := EO.start (N := Δ.N.length - ds.length) ow
          unfold L2.start startS
          rw [ow.len]
          exact this
        have hst : ∀ {σ' : L2.St}, Bd (L2.start Δ.N vs) σ' (stsO (body.map (stripS Δ dd m n scope))) → ∀ j v, vs[j]? = some v → 0 + j ∉ stsO (body.map (stripS Δ dd m n scope)) → σ'[0 + j]? = some (some v) := fun {σ'} bd j v hv hn => by
          rw [bd.out _ hn, Nat.zero_add]
          unfold L2.start
          have hj : j < vs.length := (List.getElem?_eq_some_iff.mp hv).1
          rw [List.getElem?_append_left (by simpa using hj), List.getElem?_map, hv]
          rfl
        split at e
        · rename_i dd' ρ' er
          cases e
          refine ⟨_, startS Δ.N.length ds, Gs, _, ⟨fun _ => noB_rep _, eo, nd⟩, er, fun v σ' H' F' G h => ?_⟩
          obtain ⟨Gb, b1, b2⟩ := bks_of (st := stsO (body.map (stripS Δ dd m n scope))) (vs := vs) (ds := ds) (i := 0) ow.len h.eo (hst h.bd)
          refine kk v H' G Gb ⟨h.ow, b1, h.nd.perm fun a => ?_, fun a ha => h.st.nw a ?_, h.st.fr⟩
          · have := b2 a
            simp only [ct_app]
            omega
          · rcases List.mem_append.mp ha with ha | ha
            · exact List.mem_append_right _ ha
            · exact List.mem_append_left _ (b2.mem ha)
        · rename_i ρ' er
          cases e
          refine ⟨_, startS Δ.N.length ds, Gs, _, ⟨fun _ => noB_rep _, eo, nd⟩, er, fun σ' H' F' h => ?_⟩
          obtain ⟨Gb, b1, b2⟩ := bks_of (st := stsO (body.map (stripS Δ dd m n scope))) (vs := vs) (ds := ds) (i := 0) ow.len h.eo (hst h.bd)
          refine kk .non H' [] Gb ⟨.p .non, b1, h.nd.perm fun a => ?_, fun a ha => h.st.nw a (b2.mem (by simpa using ha)), h.st.fr⟩
          have := b2 a
          simp only [List.nil_append]
          omega
        · cases e
      · cases e
end PF

set_option Elab.async false
set_option linter.all false
set_option maxRecDepth 100000
/-! PF27: a module's defs, one by one -/
namespace PF
open PySem PySem.Spec PyProof.Rows L2
inductive Cals (P : Program) (w : World) (K : PySem.W.Frag) (mg : Str → Option Value) (base : Heap) (k : Nat) : List Str → List CT → Prop
  | nil : Cals P w K mg base k [] []
  | cons {j : Nat} {f : Str} {c : CT} {fs : List Str} {Γ : List CT} : Nonempty (CalG P w K mg base j c f) → j ≤ k → Cals P w K mg base k fs Γ → Cals P w K mg base k (f :: fs) (c :: Γ)
/-- the module's numbers, the built-ins that it leaves as they are -/
structure Mo (mg : Str → Option Value) (nums : List (Str × Int)) (bl : List Str) : Prop where
  nums : ∀ p ∈ nums, ∃ t, mg p.1 = some (.int p.2 t)
  bl : ∀ b ∈ bl, mg b = none
def gsI (nums : List (Str × Int)) : List (Str × T) := nums.map fun p => (p.1, .int p.2)
section
variable {P : Program} {w : World} {K : PySem.W.Frag} {mg : Str → Option Value} {base : Heap} {k m n : Nat} {nums : List (Str × Int)} {bl N fs : List Str} {Γ : List CT}
theorem Cals.at_ (h : Cals P w K mg base k fs Γ) : ∀ (i : Nat) (f : Str), fs[i]? = some f → ∃ c, Γ[i]? = some c ∧ ∃ j, j ≤ k ∧ Nonempty (CalG P w K mg base j c f) := by
  induction h with
  | nil => intro i f e; simp at e
  | cons a b _ ih =>
    intro i f e
    cases i with
    | zero => simp at e; subst e; exact ⟨_, rfl, _, b, a⟩
    | succ i => simpa using ih i f (by simpa using e)
theorem lookup_gs {x : Str} {t : T} : ∀ {nums : List (Str × Int)}, (gsI nums).lookup x = some t → ∃ p ∈ nums, p.1 = x ∧ t = .int p.2
  | [], h => by cases h
  | p :: r, h => by
    unfold gsI at h
    rw [List.map_cons, List.lookup_cons] at h
    cases e : x == p.1 with
    | true =>
      rw [e] at h
      cases h
      exact ⟨p, List.mem_cons_self, (eq_of_beq e).symm, rfl⟩
    | false =>
      rw [e] at h
      obtain ⟨q, h1, h2⟩ := lookup_gs (nums := r) h
      exact ⟨q, List.mem_cons_of_mem _ h1, h2⟩
theorem Mo.env (M : Mo mg nums bl) (h : Cals P w K mg base k fs Γ) : Env1 P w K mg base ⟨N, fs, gsI nums, bl⟩ Γ k :=
  ⟨h.at_, fun x t e => by
    obtain ⟨p, h1, h2, h3⟩ := lookup_gs e
    obtain ⟨tk, h4⟩ := M.nums p h1
    rw [h2] at h4
    exact ⟨_, .int p.2, h4, ⟨tk, rfl⟩, fun H => by rw [h3]; exact .int _⟩, fun b e => M.bl b (by simpa using e)⟩
theorem cal_of {dd : List (Nat × List Nat)} {x : Str} {params : Arguments} {body : List Stmt} {scope : Scope} {f : Addr} {fd : FuncData} {ps : List Str} {C : CT} (M : Mo mg nums bl) (F : FunD K x x params body scope [] [] f fd) (hg : mg x = some (.ref f)) (S : FnScope N ps scope) (cs : Cals P w K mg base k fs Γ)
    (hC : mk Γ N.length ps.length (body.map (stripS ⟨N, fs, gsI nums, bl⟩ dd m n scope)) = C)
    (hb : ∀ (kV doc pm : Value) (an : Option Addr) (cdv ct : Value) (us : List Value), us.length = ps.length → bindArgs (PySem.W.fnOf x x params body scope .none kV doc pm an cdv ct) ⟨us, []⟩ = pure (ps.zip us)) : Nonempty (CalG P w K mg base (k + 1) C x) := by
  have b := F.bindsN hb
  have kp := F.kp
  obtain ⟨oc, od, dV, kV, doc, pm, an, cdv, ct, osl, rfl, lk, hcd, _, _⟩ := F.ex
  subst hC
  exact ⟨⟨f, _, ps, fn_ok (Δ := ⟨N, fs, gsI nums, bl⟩) (M.env cs) lk hcd S, hg, kp, b⟩⟩
/-- the law's def -/
theorem law_of {dd : List (Nat × List Nat)} {x y : Str} {params : Arguments} {body : List Stmt} {scope : Scope} {f : Addr} {fd : FuncData} {C : CT} (M : Mo mg nums bl) (F : FunD K x x params body scope [] [] f fd) (S : FnScope N [y] scope) (cs : ∀ base : Heap, Cals P w K mg base k fs Γ)
    (hC : mk Γ N.length 1 (body.map (stripS ⟨N, fs, gsI nums, bl⟩ dd m n scope)) = C)
    (hb : ∀ (kV doc pm : Value) (an : Option Addr) (cdv ct : Value) (us : List Value), us.length = 1 → bindArgs (PySem.W.fnOf x x params body scope .none kV doc pm an cdv ct) ⟨us, []⟩ = pure ([y].zip us)) :
    (∀ (s : Shared) (v : Value), BindsTo s fd ⟨[v], []⟩ [(y, v)]) ∧ ∀ base : Heap, FnOk P w K mg base CXn (k + 1) f fd [y] (spC K C) := by
  have b := FunD.bindsA (ps := [y]) F hb
  obtain ⟨oc, od, dV, kV, doc, pm, an, cdv, ct, osl, rfl, lk, hcd, _, _⟩ := F.ex
  subst hC
  exact ⟨fun s v => b s [v] rfl, fun base => fn_ok (Δ := ⟨N, fs, gsI nums, bl⟩) (M.env (cs base)) lk hcd S⟩
/-- the facts of the head -/
def faOf (gl : List Str) (nums : List (Str × Int)) (bl : List Str) : List He.Fa := gl.map He.Fa.glo ++ (nums.map (fun p => He.Fa.int p.1 p.2) ++ bl.map He.Fa.free)
theorem says_all {fa : List He.Fa} {fn : List He.DefD} (c : He.SaysD fa fn K) : ∀ f ∈ fa, f.ok K = true := fun f hf => by
  obtain ⟨i, e⟩ := List.getElem?_of_mem hf
  exact c.fact i e
theorem mo_of {h : Heap} {gl : List Str} {fn : List He.DefD} (X : K.In h) (G : h.Ns mainGlobals mg) (c : He.SaysD (faOf gl nums bl) fn K) : Mo mg nums bl :=
  ⟨fun p hp => He.int_ok X G (says_all c _ (List.mem_append_right _ (List.mem_append_left _ (List.mem_map.mpr ⟨p, hp, rfl⟩)))),
    fun b hb => He.free_ok X G (says_all c _ (List.mem_append_right _ (List.mem_append_right _ (List.mem_map.mpr ⟨b, hb, rfl⟩))))⟩
theorem glo_of {h : Heap} {gl : List Str} {fn : List He.DefD} (X : K.In h) (G : h.Ns mainGlobals mg) (c : He.SaysD (faOf gl nums bl) fn K) {x : Str} (hx : x ∈ gl) : mg x = some (.ref (He.ga K x)) :=
  He.glo_ok X G (says_all c _ (List.mem_append_left _ (List.mem_map.mpr ⟨x, hx, rfl⟩)))
end
/-- a script's integers -/
def ro (ns : List Int) : D := .ro (ns.map .int)
theorem script_ow {K : PySem.W.Frag} {H : Hp} {a : Addr} {ns : List Int} (hO : Only H) (hS : SqL K H a (ns.map V.int)) : OWs K H [.ref a] [ro ns] [] := by
  refine .cons (G1 := []) (G2 := []) (.ro ?_ (RTs.of_ints ns)) .nil
  rcases hS with (h | ⟨o, h⟩) | h
  · rcases hO a with e | ⟨o, xs, e⟩
    · rw [e] at h; cases h
    · rw [e] at h; cases h
  · exact .inl ⟨o, h⟩
  · exact .inr h
/-- the law's promise, from the interpreter's answer -/
theorem law_sp {K : PySem.W.Frag} {H : Hp} {a : Addr} {ns : List Int} {C : CT} {os : List (Option D)} (hO : Only H) (hS : SqL K H a (ns.map V.int)) (e : C [ro ns] = some (B true, os)) : spC K C [.ref a] H (fun v _ => v = .bl true) fun _ _ _ => False :=
  ⟨[ro ns], [], B true, os, script_ow hO hS, ND.nil, e, fun v H' G Gb pc => Rd.bl ⟨_, pc.ow⟩⟩
end PF

set_option Elab.async false
set_option linter.all false
set_option maxRecDepth 100000
/-! PF28: evaluating a def -/
namespace PF
open PySem PySem.Spec PyProof.Rows L2
section
variable {Γ : List CT} {q : Bool} {ρ ρ1 : List S}
/-! ### loops, by what stays true -/
theorem walkN_inv {α : Type} {st : α → List S} {w : Wk} {f : D → α → Option α} (I : Nat → α → Prop) (hs : ∀ i a, i < w.len → I i a → ∃ d b, w.at (st a) i = some d ∧ f d a = some b ∧ I (i + 1) b) (hok : ∀ a, I w.len a → w.ok (st a) = true) :
    ∀ (k : Nat) (a : α), k ≤ w.len → I (w.len - k) a → ∃ b, walkN st w f k a = some b ∧ I w.len b
  | 0, a, _, h => ⟨a, by simp only [walkN, hok a h, if_true], h⟩
  | k + 1, a, hk, h => by
    obtain ⟨d, b, h1, h2, h3⟩ := hs (w.len - (k + 1)) a (by omega) h
    have e : w.len - (k + 1) + 1 = w.len - k := by omega
    rw [e] at h3
    obtain ⟨c, h4, h5⟩ := walkN_inv I hs hok k b (by omega) h3
    exact ⟨c, by simp only [walkN, h1, h2, h4], h5⟩
theorem forN_inv {w : Wk} {f : D → List S → Option Out} (I : Nat → List S → Prop) (hs : ∀ i a, i < w.len → I i a → ∃ d b, w.at a i = some d ∧ f d a = some (.nx b) ∧ I (i + 1) b) (hok : ∀ a, I w.len a → w.ok a = true) :
    ∀ (k : Nat) (a : List S), k ≤ w.len → I (w.len - k) a → ∃ b, forN w f k a = some (.nx b) ∧ I w.len b
  | 0, a, _, h => ⟨a, by simp only [forN, hok a h, if_true], h⟩
  | k + 1, a, hk, h => by
    obtain ⟨d, b, h1, h2, h3⟩ := hs (w.len - (k + 1)) a (by omega) h
    have e : w.len - (k + 1) + 1 = w.len - k := by omega
    rw [e] at h3
    obtain ⟨c, h4, h5⟩ := forN_inv I hs hok k b (by omega) h3
    exact ⟨c, by simp only [forN, h1, h2, h4], h5⟩
/-- a comprehension whose turns change what they change -/
theorem ev_compI {elt : Ex} {tg : Tg} {kind : Nat} {src conds : List Ex} {rs : List R} {w : Wk} (e1 : evL Γ q src ρ = some (rs, ρ1)) (e2 : srcK ρ1 kind rs = some w) (hl : w.len ≤ LIM) (I : Nat → List D → List S → Prop) (h0 : I 0 [] (kill ρ1 tg.own))
    (hs : ∀ i acc ρ, i < w.len → I i acc ρ → ∃ d ρ2, w.at ρ i = some d ∧ bind w.isLent tg d (kill ρ tg.own) = some ρ2 ∧ ((∃ ρ3, evT Γ (q || w.isLent) conds ρ2 = some (false, ρ3) ∧ I (i + 1) acc (kill ρ3 tg.own)) ∨
      ∃ ρ3 r ρ4 x ρ5, evT Γ (q || w.isLent) conds ρ2 = some (true, ρ3) ∧ ev Γ (q || w.isLent) elt ρ3 = some (r, ρ4) ∧ own (q || w.isLent) ρ4 r = some (x, ρ5) ∧ I (i + 1) (acc ++ [x]) (kill ρ5 tg.own)))
    (hok : ∀ acc ρ, I w.len acc ρ → w.ok ρ = true) : ∃ ds ρ2, ev Γ q (.comp elt tg kind src conds) ρ = some (.rv (.l ds), ρ2) ∧ I w.len ds ρ2 := by
  simp only [ev, e1, e2, hl, if_true]
  generalize hf : (fun (d : D) (a : List D × List S) => _ : D → List D × List S → Option (List D × List S)) = f
  obtain ⟨⟨ds, ρ2⟩, h1, h2⟩ := walkN_inv (st := Prod.snd) (w := w) (f := f) (fun i a => I i a.1 a.2) (fun i a hi h => by
      obtain ⟨d, ρ2, h1, h2, h3⟩ := hs i a.1 a.2 hi h
      rcases h3 with ⟨ρ3, h4, h5⟩ | ⟨ρ3, r, ρ4, x, ρ5, h4, h5, h6, h7⟩
      · exact ⟨d, (a.1, kill ρ3 tg.own), h1, by rw [← hf]; simp only [h2, h4], h5⟩
      · exact ⟨d, (a.1 ++ [x], kill ρ5 tg.own), h1, by rw [← hf]; simp only [h2, h4, h5, h6], h7⟩) (fun a h => hok a.1 a.2 h) w.len ([], kill ρ1 tg.own) (Nat.le_refl _) (by rw [Nat.sub_self]; exact h0)
  exact ⟨ds, ρ2, by rw [h1], h2⟩
/-- one that changes nothing -/
theorem ev_compP {elt : Ex} {tg : Tg} {kind : Nat} {src conds : List Ex} {rs : List R} {w : Wk} {n : Nat} (g : Nat → Option D) (hn : w.len = n) (e1 : evL Γ q src ρ = some (rs, ρ1)) (e2 : srcK ρ1 kind rs = some w) (hl : n ≤ LIM)
    (hs : ∀ i, i < n → ∃ d ρ2, w.at (kill ρ1 tg.own) i = some d ∧ bind w.isLent tg d (kill (kill ρ1 tg.own) tg.own) = some ρ2 ∧ ((∃ ρ3, evT Γ (q || w.isLent) conds ρ2 = some (false, ρ3) ∧ g i = none ∧ kill ρ3 tg.own = kill ρ1 tg.own) ∨
      ∃ ρ3 r ρ4 x ρ5, evT Γ (q || w.isLent) conds ρ2 = some (true, ρ3) ∧ ev Γ (q || w.isLent) elt ρ3 = some (r, ρ4) ∧ own (q || w.isLent) ρ4 r = some (x, ρ5) ∧ g i = some x ∧ kill ρ5 tg.own = kill ρ1 tg.own))
    (hok : w.ok (kill ρ1 tg.own) = true) : ev Γ q (.comp elt tg kind src conds) ρ = some (.rv (.l ((List.range n).filterMap g)), kill ρ1 tg.own) := by
  subst hn
  obtain ⟨ds, ρ2, h1, h2, h3⟩ := ev_compI (elt := elt) (tg := tg) (conds := conds) e1 e2 hl (fun i acc ρ => acc = (List.range i).filterMap g ∧ ρ = kill ρ1 tg.own) ⟨rfl, rfl⟩ (fun i acc ρ' hi ⟨ha, hr⟩ => by
    subst ha hr
    obtain ⟨d, ρ2, h1, h2, h3⟩ := hs i hi
    refine ⟨d, ρ2, h1, h2, ?_⟩
    rcases h3 with ⟨ρ3, h4, h5, h6⟩ | ⟨ρ3, r, ρ4, x, ρ5, h4, h5, h6, h7, h8⟩
    · exact .inl ⟨ρ3, h4, by rw [List.range_succ, List.filterMap_append]; simp [h5], h6⟩
    · exact .inr ⟨ρ3, r, ρ4, x, ρ5, h4, h5, h6, by rw [List.range_succ, List.filterMap_append]; simp [h7], h8⟩) (fun acc ρ' ⟨_, hr⟩ => by rw [hr]; exact hok)
  rw [h1, h2, h3]
/-- a for, by what stays true -/
theorem run_forI {tg : Tg} {kind : Nat} {src : List Ex} {body : List St} {dead : List Nat} {rs : List R} {w : Wk} (e1 : evL Γ false src ρ = some (rs, ρ1)) (e2 : srcK ρ1 kind rs = some w) (hb : (!w.isLent && w.lives.all (fun r => !(tg.own ++ stsO body).contains r)) = true) (I : Nat → List S → Prop) (h0 : I 0 (kill ρ1 dead))
    (hs : ∀ i ρ, i < w.len → I i ρ → ∃ d ρ2 o ρ3, w.at ρ i = some d ∧ bind false tg d ρ = some ρ2 ∧ runs Γ body ρ2 = some o ∧ killO dead o = .nx ρ3 ∧ I (i + 1) ρ3) (hok : ∀ ρ, I w.len ρ → w.ok ρ = true) : ∃ ρ2, run Γ (.for_ tg kind src body dead) ρ = some (.nx ρ2) ∧ I w.len ρ2 := by
  simp only [run, e1, e2, hb, if_true]
  generalize hf : (fun (d : D) (ρ : List S) => _ : D → List S → Option Out) = f
  exact forN_inv (w := w) (f := f) I (fun i a hi h => by
      obtain ⟨d, ρ2, o, ρ3, h1, h2, h3, h4, h5⟩ := hs i a hi h
      exact ⟨d, ρ3, h1, by rw [← hf]; simp only [h2, h3, Option.map_some, h4], h5⟩) hok w.len (kill ρ1 dead) (Nat.le_refl _) (by rw [Nat.sub_self]; exact h0)
/-- a walk's items, where they are fixed -/
def itemsW : Wk → Option (List D)
  | .one (.fix ts) => some (ts.map .p)
  | .enum (.fix ts) => some (ts.zipIdx.map fun z => .p (.tup [.int z.2, z.1]))
  | .zip (.fix ts) (.fix us) => some ((ts.zip us).map fun z => .p (.tup [z.1, z.2]))
  | .rng lo n => some ((List.range n).map fun (i : Nat) => .p (.int (lo + i)))
  | .lent ds => some ds
  | _ => none
theorem itemsW_ok {w : Wk} {ds : List D} (h : itemsW w = some ds) : w.len = ds.length ∧ ∀ ρ, w.ok ρ = true ∧ ∀ i : Nat, w.at ρ i = ds[i]? := by
  unfold itemsW at h
  split at h <;> cases h
  · refine ⟨by simp [Wk.len, Sq.len], fun ρ => ⟨rfl, fun i => ?_⟩⟩
    simp only [Wk.at, Sq.at, List.getElem?_map]
  · refine ⟨by simp [Wk.len, Sq.len], fun ρ => ⟨rfl, fun i => ?_⟩⟩
    simp only [Wk.at, Sq.at, List.getElem?_map, List.getElem?_zipIdx]
    rename_i ts
    cases ts[i]? <;> simp
  · rename_i ts us
    refine ⟨by simp [Wk.len, Sq.len], fun ρ => ⟨rfl, fun i => ?_⟩⟩
    simp only [Wk.at, Sq.at, Sq.ok, List.getElem?_map, List.getElem?_zip_eq_some, Bool.and_self, if_true]
    cases e1 : ts[i]? with
    | none => 
      have : (ts.zip us)[i]? = none := by
        rw [List.getElem?_eq_none_iff] at e1 ⊢
        rw [List.length_zip]; omega
      rw [this]; rfl
    | some t =>
      cases e2 : us[i]? with
      | none =>
        have : (ts.zip us)[i]? = none := by
          rw [List.getElem?_eq_none_iff] at e2 ⊢
          rw [List.length_zip]; omega
        rw [this]; rfl
      | some u =>
        have : (ts.zip us)[i]? = some (t, u) := List.getElem?_zip_eq_some.mpr ⟨e1, e2⟩
        rw [this]; rfl
  · rename_i lo n
    refine ⟨by simp [Wk.len], fun ρ => ⟨rfl, fun i => ?_⟩⟩
    simp only [Wk.at, List.getElem?_map]
    by_cases hi : i < n
    · rw [if_pos hi, List.getElem?_range hi]; rfl
    · rw [if_neg hi, List.getElem?_eq_none (by simpa using hi)]; rfl
  · exact ⟨rfl, fun ρ => ⟨rfl, fun i => rfl⟩⟩
/-- a comprehension over fixed items that changes nothing -/
theorem ev_compF {elt : Ex} {tg : Tg} {kind : Nat} {src conds : List Ex} {rs : List R} {w : Wk} {ds : List D} (g : D → Option D) (hw : itemsW w = some ds) (e1 : evL Γ q src ρ = some (rs, ρ1)) (e2 : srcK ρ1 kind rs = some w) (hl : ds.length ≤ LIM)
    (hs : ∀ d ∈ ds, ∃ ρ2, bind w.isLent tg d (kill (kill ρ1 tg.own) tg.own) = some ρ2 ∧ ((∃ ρ3, evT Γ (q || w.isLent) conds ρ2 = some (false, ρ3) ∧ g d = none ∧ kill ρ3 tg.own = kill ρ1 tg.own) ∨
      ∃ ρ3 r ρ4 x ρ5, evT Γ (q || w.isLent) conds ρ2 = some (true, ρ3) ∧ ev Γ (q || w.isLent) elt ρ3 = some (r, ρ4) ∧ own (q || w.isLent) ρ4 r = some (x, ρ5) ∧ g d = some x ∧ kill ρ5 tg.own = kill ρ1 tg.own)) :
    ev Γ q (.comp elt tg kind src conds) ρ = some (.rv (.l (ds.filterMap g)), kill ρ1 tg.own) := by
  obtain ⟨h1, h2⟩ := itemsW_ok hw
  rw [ev_compP (elt := elt) (tg := tg) (conds := conds) (fun i => ds[i]?.bind g) h1 e1 e2 hl (fun i hi => ?_) (h2 _).1]
  · congr 3
    have : ds.filterMap g = ((List.range ds.length).filterMap fun i => ds[i]?).filterMap g := by
      congr 1
      have : ∀ l : List D, l = (List.range l.length).filterMap fun i => l[i]? := fun l => by
        induction l with
        | nil => rfl
        | cons a l ih =>
          rw [List.length_cons, List.range_succ_eq_map, List.filterMap_cons, List.filterMap_map]
          simp only [List.getElem?_cons_zero, Function.comp_def, List.getElem?_cons_succ]
          rw [← ih]
      exact this ds
    rw [this, List.filterMap_filterMap]
  · obtain ⟨ρ2, h3, h4⟩ := hs ds[i] (List.getElem_mem hi)
    refine ⟨ds[i], ρ2, by rw [(h2 _).2, List.getElem?_eq_getElem hi], h3, ?_⟩
    rcases h4 with ⟨ρ3, k1, k2, k3⟩ | ⟨ρ3, r, ρ4, x, ρ5, k1, k2, k3, k4, k5⟩
    · exact .inl ⟨ρ3, k1, by rw [List.getElem?_eq_getElem hi]; exact k2, k3⟩
    · exact .inr ⟨ρ3, r, ρ4, x, ρ5, k1, k2, k3, by rw [List.getElem?_eq_getElem hi]; exact k4, k5⟩
theorem kill_kill {ρ : List S} {is : List Nat} : kill (kill ρ is) is = kill ρ is := kill_idem fun j hj => kill_no ρ hj
/-- [g(a) for a in xs] -/
theorem ev_compM {α : Type} (xs : List α) (enc g : α → D) {elt : Ex} {tg : Tg} {kind : Nat} {src : List Ex} {rs : List R} {w : Wk} {ρ0 : List S} (hw : itemsW w = some (xs.map enc)) (hn : w.isLent = false) (e1 : evL Γ q src ρ = some (rs, ρ1)) (e2 : srcK ρ1 kind rs = some w) (hl : xs.length ≤ LIM) (hρ : kill ρ1 tg.own = ρ0)
    (hs : ∀ a ∈ xs, ∃ ρ2 r ρ4 ρ5, bind false tg (enc a) ρ0 = some ρ2 ∧ ev Γ q elt ρ2 = some (r, ρ4) ∧ own q ρ4 r = some (g a, ρ5) ∧ kill ρ5 tg.own = ρ0) :
    ev Γ q (.comp elt tg kind src []) ρ = some (.rv (.l (xs.map g)), ρ0) := by
  subst hρ
  obtain ⟨h1, h2⟩ := itemsW_ok hw
  rw [List.length_map] at h1
  rw [ev_compP (elt := elt) (tg := tg) (conds := []) (fun i => xs[i]?.map g) h1 e1 e2 hl (fun i hi => ?_) (h2 _).1]
  · congr 3
    have : ∀ l : List α, ((List.range l.length).filterMap fun i => l[i]?.map g) = l.map g := fun l => by
      induction l with
      | nil => rfl
      | cons a l ih =>
        rw [List.length_cons, List.range_succ_eq_map, List.filterMap_cons, List.filterMap_map]
        simp only [List.getElem?_cons_zero, Option.map_some, Function.comp_def, List.getElem?_cons_succ, List.map_cons]
        rw [ih]
    exact congrArg D.l (this xs)
  · obtain ⟨ρ2, r, ρ4, ρ5, k1, k2, k3, k4⟩ := hs xs[i] (List.getElem_mem hi)
    refine ⟨enc xs[i], ρ2, by rw [(h2 _).2, List.getElem?_map, List.getElem?_eq_getElem hi]; rfl, by rw [hn, kill_kill]; exact k1, .inr ⟨ρ2, r, ρ4, g xs[i], ρ5, rfl, ?_, ?_, by rw [List.getElem?_eq_getElem hi]; rfl, k4⟩⟩
    · rw [hn, Bool.or_false]; exact k2
    · rw [hn, Bool.or_false]; exact k3
/-- [g(a) for a in xs if p(a)] -/
theorem ev_compC {α : Type} (xs : List α) (enc g : α → D) (p : α → Bool) {elt c : Ex} {tg : Tg} {kind : Nat} {src : List Ex} {rs : List R} {w : Wk} {ρ0 : List S} (hw : itemsW w = some (xs.map enc)) (hn : w.isLent = false) (e1 : evL Γ q src ρ = some (rs, ρ1)) (e2 : srcK ρ1 kind rs = some w) (hl : xs.length ≤ LIM) (hρ : kill ρ1 tg.own = ρ0)
    (hs : ∀ a ∈ xs, ∃ ρ2 rc ρ3, bind false tg (enc a) ρ0 = some ρ2 ∧ ev Γ q c ρ2 = some (rc, ρ3) ∧ truR ρ3 rc = some (p a) ∧ (p a = false → kill ρ3 tg.own = ρ0) ∧ (p a = true → ∃ r ρ4 ρ5, ev Γ q elt ρ3 = some (r, ρ4) ∧ own q ρ4 r = some (g a, ρ5) ∧ kill ρ5 tg.own = ρ0)) :
    ev Γ q (.comp elt tg kind src [c]) ρ = some (.rv (.l ((xs.filter p).map g)), ρ0) := by
  subst hρ
  obtain ⟨h1, h2⟩ := itemsW_ok hw
  rw [List.length_map] at h1
  rw [ev_compP (elt := elt) (tg := tg) (conds := [c]) (fun i => xs[i]?.bind fun a => if p a then some (g a) else none) h1 e1 e2 hl (fun i hi => ?_) (h2 _).1]
  · congr 3
    have : ∀ l : List α, ((List.range l.length).filterMap fun i => l[i]?.bind fun a => if p a then some (g a) else none) = (l.filter p).map g := fun l => by
      induction l with
      | nil => rfl
      | cons a l ih =>
        rw [List.length_cons, List.range_succ_eq_map, List.filterMap_cons, List.filterMap_map, List.filter_cons]
        simp only [List.getElem?_cons_zero, Option.bind_some, Function.comp_def, List.getElem?_cons_succ]
        rw [ih]
        cases p a <;> simp
    exact congrArg D.l (this xs)
  · obtain ⟨ρ2, rc, ρ3, k1, k2, k3, k4, k5⟩ := hs xs[i] (List.getElem_mem hi)
    refine ⟨enc xs[i], ρ2, by rw [(h2 _).2, List.getElem?_map, List.getElem?_eq_getElem hi]; rfl, by rw [hn, kill_kill]; exact k1, ?_⟩
    have et : ∀ b, p xs[i] = b → evT Γ (q || w.isLent) [c] ρ2 = some (b, ρ3) := fun b hb => by
      rw [hn, Bool.or_false]
      simp only [evT, k2, k3, hb]
    cases hp : p xs[i] with
    | false => exact .inl ⟨ρ3, et _ hp, by rw [List.getElem?_eq_getElem hi]; simp [hp], k4 hp⟩
    | true =>
      obtain ⟨r, ρ4, ρ5, k6, k7, k8⟩ := k5 hp
      refine .inr ⟨ρ3, r, ρ4, g xs[i], ρ5, et _ hp, ?_, ?_, by rw [List.getElem?_eq_getElem hi]; simp [hp], k8⟩
      · rw [hn, Bool.or_false]; exact k6
      · rw [hn, Bool.or_false]; exact k7
end
section
variable {Γ : List CT} {q : Bool} {ρ ρ1 : List S}
/-- a for whose states are told -/
theorem run_forD {tg : Tg} {kind : Nat} {src : List Ex} {body : List St} {dead : List Nat} {rs : List R} {w : Wk} {n : Nat} (s : Nat → List S) (hn : w.len = n) (e1 : evL Γ false src ρ = some (rs, ρ1)) (e2 : srcK ρ1 kind rs = some w) (hb : (!w.isLent && w.lives.all (fun r => !(tg.own ++ stsO body).contains r)) = true) (h0 : kill ρ1 dead = s 0)
    (hs : ∀ i, i < n → ∃ d ρ2 o, w.at (s i) i = some d ∧ bind false tg d (s i) = some ρ2 ∧ runs Γ body ρ2 = some o ∧ killO dead o = .nx (s (i + 1))) (hok : w.ok (s n) = true) : run Γ (.for_ tg kind src body dead) ρ = some (.nx (s n)) := by
  subst hn
  obtain ⟨ρ2, h1, h2⟩ := run_forI (body := body) e1 e2 hb (fun i ρ => ρ = s i) h0 (fun i ρ hi e => by
    subst e
    obtain ⟨d, ρ2, o, h1, h2, h3, h4⟩ := hs i hi
    exact ⟨d, ρ2, o, _, h1, h2, h3, h4, rfl⟩) (fun ρ e => by rw [e]; exact hok)
  rw [h1, h2]
end
theorem ev_compN {Γ : List CT} {q : Bool} {ρ ρ1 : List S} {α : Type} (xs : List α) (enc g : α → D) {elt : Ex} {tg : Tg} {kind : Nat} {src : List Ex} {rs : List R} {w : Wk} {ρ0 : List S} (hw : itemsW w = some (xs.map enc)) (hn : w.isLent = false) (e1 : evL Γ q src ρ = some (rs, ρ1)) (e2 : srcK ρ1 kind rs = some w) (hl : xs.length ≤ LIM) (hρ : kill ρ1 tg.own = ρ0)
    (hs : ∀ a ∈ xs, ∃ ρ2, bind false tg (enc a) ρ0 = some ρ2 ∧ kill ρ2 tg.own = ρ0 ∧ ev Γ q elt ρ2 = some (.rv (g a), ρ2)) : ev Γ q (.comp elt tg kind src []) ρ = some (.rv (.l (xs.map g)), ρ0) :=
  ev_compM xs enc g hw hn e1 e2 hl hρ fun a ha => by
    obtain ⟨ρ2, h1, h2, h3⟩ := hs a ha
    exact ⟨ρ2, _, ρ2, ρ2, h1, h3, rfl, h2⟩
theorem atI_nat {α : Type} {xs : List α} {i : Nat} (h : i < xs.length) : L2.atI xs (i : Int) = xs[i]? := by
  unfold L2.atI L2.ixN
  rw [if_pos (Int.natCast_nonneg i), if_pos (by omega)]
  simp
theorem ixN_nat {n i : Nat} (h : i < n) : L2.ixN n (i : Int) = some i := by
  unfold L2.ixN
  rw [if_pos (Int.natCast_nonneg i), if_pos (by omega)]
  simp
theorem blsOf_map {α : Type} (l : List α) (f : α → Bool) : blsOf (l.map fun x => T.bl (f x)) = some (l.map f) := by
  induction l with
  | nil => rfl
  | cons a l ih => simp [blsOf, ih]
theorem intsOf_map {α : Type} (l : List α) (f : α → Int) : intsOf (l.map fun x => T.int (f x)) = some (l.map f) := by
  induction l with
  | nil => rfl
  | cons a l ih => simp [intsOf, ih]
theorem pures_mapP {α : Type} (l : List α) (f : α → T) : pures (l.map fun x => D.p (f x)) = some (l.map f) := by
  induction l with
  | nil => rfl
  | cons a l ih => simp [pures, ih]
/-! ### equations that are rewritten by, not unfolded -/
theorem ev_1 : type_of% @ev.eq_1 := by intros; rw [ev.eq_1]
theorem ev_2 : type_of% @ev.eq_2 := by intros; rw [ev.eq_2]
theorem ev_3 : type_of% @ev.eq_3 := by intros; rw [ev.eq_3]
theorem ev_4 : type_of% @ev.eq_4 := by intros; rw [ev.eq_4]
theorem ev_5 : type_of% @ev.eq_5 := by intros; rw [ev.eq_5]
theorem ev_6 : type_of% @ev.eq_6 := by intros; rw [ev.eq_6]
theorem ev_7 : type_of% @ev.eq_7 := by intros; rw [ev.eq_7]
theorem ev_8 : type_of% @ev.eq_8 := by intros; rw [ev.eq_8]
theorem ev_9 : type_of% @ev.eq_9 := by intros; rw [ev.eq_9]
theorem ev_10 : type_of% @ev.eq_10 := by intros; rw [ev.eq_10]
theorem ev_11 : type_of% @ev.eq_11 := by intros; rw [ev.eq_11]
theorem ev_12 : type_of% @ev.eq_12 := by intros; rw [ev.eq_12]
theorem ev_13 : type_of% @ev.eq_13 := by intros; rw [ev.eq_13]
theorem ev_15 : type_of% @ev.eq_15 := by intros; rw [ev.eq_15]
theorem evL_1 : type_of% @evL.eq_1 := by intros; rw [evL.eq_1]
theorem evL_2 : type_of% @evL.eq_2 := by intros; rw [evL.eq_2]
theorem evT_1 : type_of% @evT.eq_1 := by intros; rw [evT.eq_1]
theorem evT_2 : type_of% @evT.eq_2 := by intros; rw [evT.eq_2]
theorem run_1 : type_of% @PF.run.eq_1 := by intros; rw [PF.run.eq_1]
theorem run_2 : type_of% @PF.run.eq_2 := by intros; rw [PF.run.eq_2]
theorem run_3 : type_of% @PF.run.eq_3 := by intros; rw [PF.run.eq_3]
theorem run_4 : type_of% @PF.run.eq_4 := by intros; rw [PF.run.eq_4]
theorem run_5 : type_of% @PF.run.eq_5 := by intros; rw [PF.run.eq_5]
theorem run_6 : type_of% @PF.run.eq_6 := by intros; rw [PF.run.eq_6]
theorem run_7 : type_of% @PF.run.eq_7 := by intros; rw [PF.run.eq_7]
theorem run_8 : type_of% @PF.run.eq_8 := by intros; rw [PF.run.eq_8]
theorem run_9 : type_of% @PF.run.eq_9 := by intros; rw [PF.run.eq_9]
theorem run_12 : type_of% @PF.run.eq_12 := by intros; rw [PF.run.eq_12]
theorem run_13 : type_of% @PF.run.eq_13 := by intros; rw [PF.run.eq_13]
theorem run_14 : type_of% @PF.run.eq_14 := by intros; rw [PF.run.eq_14]
theorem run_15 : type_of% @PF.run.eq_15 := by intros; rw [PF.run.eq_15]
theorem run_16 : type_of% @PF.run.eq_16 := by intros; rw [PF.run.eq_16]
theorem run_17 : type_of% @PF.run.eq_17 := by intros; rw [PF.run.eq_17]
theorem runs_1 : type_of% @runs.eq_1 := by intros; rw [runs.eq_1]
theorem runs_2 : type_of% @runs.eq_2 := by intros; rw [runs.eq_2]
theorem evOwn_1 : type_of% @evOwn.eq_1 := by intros; rw [evOwn.eq_1]
theorem evTest_1 : type_of% @evTest.eq_1 := by intros; rw [evTest.eq_1]
end PF

set_option Elab.async false
set_option linter.all false
namespace PF
theorem mk_rt {Γ : List CT} {n np : Nat} {body : List St} {ds : List D} {ρ0 ρ : List S} {d : D} {st : List Nat} {l : List (Option D)} (h1 : ds.length = np) (h0 : startS n ds = ρ0) (h2 : runs Γ body ρ0 = some (.rt d ρ)) (h3 : stsO body = st) (h4 : left st 0 ds ρ = l) : mk Γ n np body ds = some (d, l) := by
  subst h0 h3 h4
  rw [mk, if_pos h1, h2]
theorem mk_nx {Γ : List CT} {n np : Nat} {body : List St} {ds : List D} {ρ0 ρ : List S} {st : List Nat} {l : List (Option D)} (h1 : ds.length = np) (h0 : startS n ds = ρ0) (h2 : runs Γ body ρ0 = some (.nx ρ)) (h3 : stsO body = st) (h4 : left st 0 ds ρ = l) : mk Γ n np body ds = some (.p .non, l) := by
  subst h0 h3 h4
  rw [mk, if_pos h1, h2]
theorem runs_nx {Γ : List CT} {s : St} {r : List St} {ρ ρ1 : List S} {R} (h : run Γ s ρ = some (.nx ρ1)) (h2 : runs Γ r ρ1 = R) : runs Γ (s :: r) ρ = R := by
  rw [runs_2, h]; exact h2
theorem runs_rt {Γ : List CT} {s : St} {r : List St} {ρ ρ1 : List S} {d : D} (h : run Γ s ρ = some (.rt d ρ1)) : runs Γ (s :: r) ρ = some (.rt d ρ1) := by
  rw [runs_2, h]
theorem runs_one {Γ : List CT} {s : St} {ρ : List S} {R} (h : run Γ s ρ = R) : runs Γ [s] ρ = R := by
  rw [runs_2, h]
  cases R with
  | none => rfl
  | some o => cases o <;> simp [runs_1]
theorem runs_0 {Γ : List CT} {ρ : List S} : runs Γ [] ρ = some (.nx ρ) := runs_1 ..
theorem run_ite_t {Γ : List CT} {c : Ex} {a b : List St} {ρ ρ1 : List S} {R} (h : evTest Γ c ρ = some (true, ρ1)) (h2 : runs Γ a ρ1 = R) : run Γ (.ite c a b) ρ = R := by
  rw [run_9, h]; exact h2
theorem run_ite_f {Γ : List CT} {c : Ex} {a b : List St} {ρ ρ1 : List S} {R} (h : evTest Γ c ρ = some (false, ρ1)) (h2 : runs Γ b ρ1 = R) : run Γ (.ite c a b) ρ = R := by
  rw [run_9, h]; exact h2
theorem run_asg {Γ : List CT} {i : Nat} {e : Ex} {ρ ρ1 : List S} {d : D} (h : evOwn Γ e ρ = some (d, ρ1)) : run Γ (.asg i e) ρ = some (.nx (put ρ1 i (.val d))) := by
  rw [run_1, h]
theorem run_ret {Γ : List CT} {e : Ex} {ρ ρ1 : List S} {d : D} (h : evOwn Γ e ρ = some (d, ρ1)) : run Γ (.ret e) ρ = some (.rt d ρ1) := by
  rw [run_12, h]
theorem own_p {Γ : List CT} {i : Nat} {ρ : List S} {t : T} (h : look ρ i = .val (.p t)) : evOwn Γ (.nm i) ρ = some (.p t, ρ) := by
  rw [evOwn_1, ev_1, h]; rfl
theorem own_l {Γ : List CT} {i : Nat} {ρ : List S} {ds : List D} (h : look ρ i = .val (.l ds)) : evOwn Γ (.nm i) ρ = some (.l ds, put ρ i .no) := by
  rw [evOwn_1, ev_1, h]
  simp only [PF.own, if_false, Bool.false_eq_true, h]
theorem beq_dec (a b : Int) : (a == b) = decide (a = b) := by
  rw [Bool.eq_iff_iff]; simp
section
variable {Γ : List CT} {q : Bool} {ρ ρ1 ρ2 : List S} {o : Op} {a b e : Ex} {x y d : D} {k k2 : Bool}
theorem e_un (h1 : ev Γ q a ρ = some (.rv x, ρ1)) (h3 : opD o [x] = some d) : ev Γ q (.op o [a]) ρ = some (.rv d, ρ1) := by
  rw [ev_3, evL_2, h1]
  simp only [evL_1, vals, valR, h3]
theorem e_un_bv (h1 : ev Γ q a ρ = some (.bv x, ρ1)) (h3 : opD o [x] = some d) : ev Γ q (.op o [a]) ρ = some (.rv d, ρ1) := by
  rw [ev_3, evL_2, h1]
  simp only [evL_1, vals, valR, h3]
theorem e_un_nm {i : Nat} (h1 : ev Γ q a ρ = some (.nm i, ρ1)) (h2 : look ρ1 i = .val x) (h3 : opD o [x] = some d) : ev Γ q (.op o [a]) ρ = some (.rv d, ρ1) := by
  rw [ev_3, evL_2, h1]
  simp only [evL_1, vals, valR, h2, h3]
theorem e_bin (h1 : ev Γ q a ρ = some (.rv x, ρ1)) (h2 : ev Γ q b ρ1 = some (.rv y, ρ2)) (h3 : opD o [x, y] = some d) : ev Γ q (.op o [a, b]) ρ = some (.rv d, ρ2) := by
  rw [ev_3, evL_2, h1]
  simp only [lent, Bool.or_false, evL_2, h2, evL_1, vals, valR, h3]
theorem e_cst {t : T} : ev Γ q (.cst t) ρ = some (.rv (.p t), ρ) := ev_2 ..
theorem e_nm {i : Nat} {t : T} (h : look ρ i = .val (.p t)) : ev Γ q (.nm i) ρ = some (.rv (.p t), ρ) := by
  rw [ev_1, h]
theorem e_nml {i : Nat} {ds : List D} (h : look ρ i = .val (.l ds)) : ev Γ q (.nm i) ρ = some (.nm i, ρ) := by
  rw [ev_1, h]
theorem o_rv (h : ev Γ false e ρ = some (.rv d, ρ1)) : evOwn Γ e ρ = some (d, ρ1) := by
  rw [evOwn_1, h]; rfl
theorem t_rv (h : ev Γ false e ρ = some (.rv (.p (.bl k)), ρ1)) : evTest Γ e ρ = some (k, ρ1) := by
  rw [evTest_1, h]; rfl
theorem e_andf (h1 : ev Γ q a ρ = some (.rv (.p (.bl false)), ρ1)) : ev Γ q (.and_ a b) ρ = some (.rv (.p (.bl false)), ρ1) := by
  rw [show ev Γ q (.and_ a b) ρ = _ from ev_9 .., h1]; rfl
theorem e_andt {R} (h1 : ev Γ q a ρ = some (.rv (.p (.bl true)), ρ1)) (h2 : ev Γ q b ρ1 = R) : ev Γ q (.and_ a b) ρ = R := by
  rw [show ev Γ q (.and_ a b) ρ = _ from ev_9 .., h1]; exact h2
theorem e_ort (h1 : ev Γ q a ρ = some (.rv (.p (.bl true)), ρ1)) : ev Γ q (.or_ a b) ρ = some (.rv (.p (.bl true)), ρ1) := by
  rw [show ev Γ q (.or_ a b) ρ = _ from ev_10 .., h1]; rfl
theorem e_orf {R} (h1 : ev Γ q a ρ = some (.rv (.p (.bl false)), ρ1)) (h2 : ev Γ q b ρ1 = R) : ev Γ q (.or_ a b) ρ = R := by
  rw [show ev Γ q (.or_ a b) ρ = _ from ev_10 .., h1]; exact h2
theorem e_not (h1 : ev Γ q a ρ = some (.rv (.p (.bl k)), ρ1)) : ev Γ q (.not_ a) ρ = some (.rv (.p (.bl !k)), ρ1) := by
  rw [show ev Γ q (.not_ a) ρ = _ from ev_11 .., h1]; rfl
theorem e_ift {R} {c : Ex} (h1 : ev Γ q c ρ = some (.rv (.p (.bl true)), ρ1)) (h2 : ev Γ q a ρ1 = R) : ev Γ q (.ifx c a b) ρ = R := by
  rw [show ev Γ q (.ifx c a b) ρ = _ from ev_12 .., h1]; exact h2
theorem e_iff {R} {c : Ex} (h1 : ev Γ q c ρ = some (.rv (.p (.bl false)), ρ1)) (h2 : ev Γ q b ρ1 = R) : ev Γ q (.ifx c a b) ρ = R := by
  rw [show ev Γ q (.ifx c a b) ρ = _ from ev_12 .., h1]; exact h2
theorem r_asg {i : Nat} (h : ev Γ false e ρ = some (.rv d, ρ1)) : run Γ (.asg i e) ρ = some (.nx (put ρ1 i (.val d))) := run_asg (o_rv h)
theorem r_ret (h : ev Γ false e ρ = some (.rv d, ρ1)) : run Γ (.ret e) ρ = some (.rt d ρ1) := run_ret (o_rv h)
end
section
variable {Γ : List CT} {q : Bool} {ρ ρ1 ρ2 : List S} {e : Ex} {es : List Ex} {d : D} {ds : List D} {rs : List R} {os : List (Option D)} {c : CT}
theorem a_nil : evL Γ q [] ρ = some ([], ρ) := evL_1 ..
theorem a_rv (h : ev Γ q e ρ = some (.rv d, ρ1)) (h2 : evL Γ q es ρ1 = some (rs, ρ2)) : evL Γ q (e :: es) ρ = some (.rv d :: rs, ρ2) := by
  rw [evL_2, h]
  simp only [lent, Bool.or_false, h2]
theorem a_nm {i : Nat} (h : ev Γ q e ρ = some (.nm i, ρ1)) (h2 : evL Γ q es ρ1 = some (rs, ρ2)) : evL Γ q (e :: es) ρ = some (.nm i :: rs, ρ2) := by
  rw [evL_2, h]
  simp only [lent, Bool.or_false, h2]
theorem vals_rv : ∀ ds : List D, vals ρ (ds.map .rv) = some ds
  | [] => rfl
  | d :: ds => by simp [vals, valR, vals_rv ds]
theorem nms_rv : ∀ ds : List D, nms (ds.map .rv) = []
  | [] => rfl
  | _ :: ds => nms_rv ds
theorem back_rv : ∀ (ds : List D) (os : List (Option D)), os.length = ds.length → back ρ (ds.map .rv) os = some ρ
  | [], _, _ => rfl
  | _ :: ds, o :: os, h => by simpa [back] using back_rv ds os (by simpa using h)
  | _ :: _, [], h => by simp at h
theorem e_call {k : Nat} (h1 : evL Γ q es ρ = some (ds.map .rv, ρ1)) (h2 : Γ[k]? = some c) (h3 : c ds = some (d, os)) (h4 : os.length = ds.length) : ev Γ q (.call k es) ρ = some (.rv d, ρ1) := by
  rw [ev_15, h1, h2]
  simp only [callD, vals_rv, nms_rv, nodupB, List.isEmpty_nil, Bool.or_true, Bool.and_true, if_true, h3, back_rv ds os h4, Option.map_some]
theorem e_callh {k i : Nat} {d0 h' : D} (h1 : evL Γ false es ρ = some (.nm i :: ds.map .rv, ρ1)) (hl : look ρ1 i = .val d0) (h2 : Γ[k]? = some c) (h3 : c (d0 :: ds) = some (d, some h' :: os)) (h4 : os.length = ds.length) : ev Γ false (.call k es) ρ = some (.rv d, put ρ1 i (.val h')) := by
  rw [ev_15, h1, h2]
  simp only [callD, vals, valR, hl, vals_rv, nms, nms_rv, nodupB, List.contains_nil, Bool.not_false, Bool.true_or, Bool.and_true, if_true, h3, back, back_rv ds os h4, Option.map_some]
end
end PF

set_option Elab.async false
set_option linter.all false
set_option maxRecDepth 100000
/-! PF30: evaluating, from behind -/
namespace PF
/-- an expression comes to a result of which Q holds -/
structure W (Γ : List CT) (q : Bool) (e : Ex) (ρ : List S) (Q : R → List S → Prop) : Prop where
  out : ∃ r ρ', ev Γ q e ρ = some (r, ρ') ∧ Q r ρ'
structure WL (Γ : List CT) (q : Bool) (es : List Ex) (ρ : List S) (Q : List R → List S → Prop) : Prop where
  out : ∃ r ρ', evL Γ q es ρ = some (r, ρ') ∧ Q r ρ'
/-- statements -/
structure WS (Γ : List CT) (ss : List St) (ρ : List S) (Q : Out → Prop) : Prop where
  out : ∃ o, runs Γ ss ρ = some o ∧ Q o
structure W1 (Γ : List CT) (s : St) (ρ : List S) (Q : Out → Prop) : Prop where
  out : ∃ o, run Γ s ρ = some o ∧ Q o
/-- a def's answer -/
structure Sp (c : CT) (ds : List D) (Q : D → List (Option D) → Prop) : Prop where
  out : ∃ d os, c ds = some (d, os) ∧ Q d os
section
variable {Γ : List CT} {q : Bool} {ρ ρ1 ρ2 ρ3 : List S} {o o1 o2 : Op} {a b c e : Ex} {es : List Ex} {x y z d : D} {k : Bool} {i : Nat} {t : T} {r : R} {Q : R → List S → Prop} {QL : List R → List S → Prop} {QS : Out → Prop} {ss : List St}
theorem W.mono {Q' : R → List S → Prop} (h : W Γ q e ρ Q) (f : ∀ r ρ', Q r ρ' → Q' r ρ') : W Γ q e ρ Q' := by
  obtain ⟨r, ρ', h1, h2⟩ := h; exact ⟨r, ρ', h1, f _ _ h2⟩
theorem WS.mono {Q' : Out → Prop} (h : WS Γ ss ρ QS) (f : ∀ o, QS o → Q' o) : WS Γ ss ρ Q' := by
  obtain ⟨o, h1, h2⟩ := h; exact ⟨o, h1, f _ h2⟩
theorem Sp.mono {c : CT} {ds : List D} {Q Q' : D → List (Option D) → Prop} (h : Sp c ds Q) (f : ∀ d os, Q d os → Q' d os) : Sp c ds Q' := by
  obtain ⟨d, os, h1, h2⟩ := h; exact ⟨d, os, h1, f _ _ h2⟩
theorem Sp.of_eq {c : CT} {ds : List D} {d : D} {os : List (Option D)} {Q : D → List (Option D) → Prop} (h : c ds = some (d, os)) (f : Q d os) : Sp c ds Q := ⟨d, os, h, f⟩
structure Ans (d : D) (os : List (Option D)) (d' : D) (os' : List (Option D)) : Prop where
  out : d' = d ∧ os' = os
theorem ans_ {d : D} {os : List (Option D)} : Ans d os d os := ⟨rfl, rfl⟩
theorem Sp.eq {c : CT} {ds : List D} {d : D} {os : List (Option D)} (h : Sp c ds (Ans d os)) : c ds = some (d, os) := by
  obtain ⟨d', os', h1, rfl, rfl⟩ := h; exact h1
theorem W.ev (h : ev Γ q e ρ = some (r, ρ1)) (f : Q r ρ1) : W Γ q e ρ Q := ⟨r, ρ1, h, f⟩
theorem W.eq (h : W Γ q e ρ fun r' ρ' => r' = r ∧ ρ' = ρ1) : PF.ev Γ q e ρ = some (r, ρ1) := by
  obtain ⟨r', ρ', h1, rfl, rfl⟩ := h; exact h1

/-! ### expressions -/
theorem W_cst (h : Q (.rv (.p t)) ρ) : W Γ q (.cst t) ρ Q := ⟨_, _, ev_2 .., h⟩
theorem W_nmP (h : look ρ i = .val (.p t)) (f : Q (.rv (.p t)) ρ) : W Γ q (.nm i) ρ Q := ⟨_, _, by rw [ev_1, h], f⟩
theorem W_nmL (h : look ρ i = .val d) (hd : isP d = false) (f : Q (.nm i) ρ) : W Γ q (.nm i) ρ Q := ⟨_, _, by
  rw [ev_1, h]
  cases d <;> first | rfl | exact absurd hd (by simp [isP]), f⟩
theorem W_boP (h : look ρ i = .bor (.p t)) (f : Q (.rv (.p t)) ρ) : W Γ q (.nm i) ρ Q := ⟨_, _, by rw [ev_1, h], f⟩
theorem W_boL (h : look ρ i = .bor d) (hd : isP d = false) (hq : q = true) (f : Q (.bv d) ρ) : W Γ q (.nm i) ρ Q := ⟨_, _, by
  rw [ev_1, h]
  cases d <;> first | (simp only [hq, if_true]; done) | exact absurd hd (by simp [isP]), f⟩
/-- results read -/
structure V1 (o : Op) (x : D) (ρ : List S) (Q : R → List S → Prop) : Prop where
  out : ∃ d, opD o [x] = some d ∧ Q (.rv d) ρ
structure V2 (o : Op) (x y : D) (ρ : List S) (Q : R → List S → Prop) : Prop where
  out : ∃ d, opD o [x, y] = some d ∧ Q (.rv d) ρ
structure V3 (o : Op) (x y z : D) (ρ : List S) (Q : R → List S → Prop) : Prop where
  out : ∃ d, opD o [x, y, z] = some d ∧ Q (.rv d) ρ
structure VI (x y : D) (ρ : List S) (Q : R → List S → Prop) : Prop where
  out : ∃ d, itemD [x, y] = some d ∧ Q (.rv d) ρ
structure K1 (o : Op) (r : R) (ρ : List S) (Q : R → List S → Prop) : Prop where
  out : ∃ x, valR ρ r = some x ∧ V1 o x ρ Q
structure K2 (o : Op) (r r2 : R) (ρ : List S) (Q : R → List S → Prop) : Prop where
  out : ∃ x y, valR ρ r = some x ∧ valR ρ r2 = some y ∧ V2 o x y ρ Q
structure K3 (o : Op) (r r2 r3 : R) (ρ : List S) (Q : R → List S → Prop) : Prop where
  out : ∃ x y z, valR ρ r = some x ∧ valR ρ r2 = some y ∧ valR ρ r3 = some z ∧ V3 o x y z ρ Q
theorem V_1 (h : opD o [x] = some d) (f : Q (.rv d) ρ) : V1 o x ρ Q := ⟨d, h, f⟩
theorem V_2 (h : opD o [x, y] = some d) (f : Q (.rv d) ρ) : V2 o x y ρ Q := ⟨d, h, f⟩
theorem V_3 (h : opD o [x, y, z] = some d) (f : Q (.rv d) ρ) : V3 o x y z ρ Q := ⟨d, h, f⟩
theorem V_i (h : itemD [x, y] = some d) (f : Q (.rv d) ρ) : VI x y ρ Q := ⟨d, h, f⟩
theorem K_1r (f : V1 o x ρ Q) : K1 o (.rv x) ρ Q := ⟨x, rfl, f⟩
theorem K_1b (f : V1 o x ρ Q) : K1 o (.bv x) ρ Q := ⟨x, rfl, f⟩
theorem K_1 (h1 : valR ρ r = some x) (f : V1 o x ρ Q) : K1 o r ρ Q := ⟨x, h1, f⟩
theorem K_2r (f : V2 o x y ρ Q) : K2 o (.rv x) (.rv y) ρ Q := ⟨x, y, rfl, rfl, f⟩
theorem K_2 {r2 : R} (h1 : valR ρ r = some x) (h2 : valR ρ r2 = some y) (f : V2 o x y ρ Q) : K2 o r r2 ρ Q := ⟨x, y, h1, h2, f⟩
theorem K_3 {r2 r3 : R} (h1 : valR ρ r = some x) (h2 : valR ρ r2 = some y) (h3 : valR ρ r3 = some z) (f : V3 o x y z ρ Q) : K3 o r r2 r3 ρ Q := ⟨x, y, z, h1, h2, h3, f⟩
theorem W_op1 (h : W Γ q a ρ fun r ρ1 => K1 o r ρ1 Q) : W Γ q (.op o [a]) ρ Q := by
  obtain ⟨r, ρ1, h1, x, h2, d, h3, h4⟩ := h
  exact ⟨.rv d, ρ1, by rw [ev_3, evL_2, h1]; simp only [evL_1, vals, h2, h3], h4⟩
theorem W_op2 (h : W Γ q a ρ fun r ρ1 => W Γ (q || lent r) b ρ1 fun r2 ρ2 => K2 o r r2 ρ2 Q) : W Γ q (.op o [a, b]) ρ Q := by
  obtain ⟨r, ρ1, h1, r2, ρ2, h2, x, y, h3, h4, d, h5, h6⟩ := h
  exact ⟨.rv d, ρ2, by rw [ev_3, evL_2, h1]; simp only [evL_2, h2, evL_1, vals, h3, h4, h5], h6⟩
theorem W_op3 (h : W Γ q a ρ fun r ρ1 => W Γ (q || lent r) b ρ1 fun r2 ρ2 => W Γ ((q || lent r) || lent r2) c ρ2 fun r3 ρ3 => K3 o r r2 r3 ρ3 Q) : W Γ q (.op o [a, b, c]) ρ Q := by
  obtain ⟨r, ρ1, h1, r2, ρ2, h2, r3, ρ3, h7, x, y, z, h3, h4, h5, d, h6, h8⟩ := h
  exact ⟨.rv d, ρ3, by rw [ev_3, evL_2, h1]; simp only [evL_2, h2, h7, evL_1, vals, h3, h4, h5, h6], h8⟩
/-- an item -/
structure KI (r ri : R) (ρ : List S) (Q : R → List S → Prop) : Prop where
  out : ∃ d e, valR ρ r = some d ∧ valR ρ ri = some e ∧ VI d e ρ Q
structure KIl (r : R) (ds : List D) (k : Int) (ρ : List S) (Q : R → List S → Prop) : Prop where
  out : ∃ d, L2.atI ds k = some d ∧ isP d = false ∧ (∀ e, r ≠ .rv e) ∧ Q (.bv d) ρ
theorem K_ir {e : D} (f : VI d e ρ Q) : KI (.rv d) (.rv e) ρ Q := ⟨d, e, rfl, rfl, f⟩
theorem K_i {ri : R} {e : D} (h1 : valR ρ r = some d) (h2 : valR ρ ri = some e) (f : VI d e ρ Q) : KI r ri ρ Q := ⟨d, e, h1, h2, f⟩
theorem W_idx (h : W Γ q a ρ fun r ρ1 => W Γ (q || lent r) b ρ1 fun ri ρ2 => KI r ri ρ2 Q) : W Γ q (.idx a b) ρ Q := by
  obtain ⟨r, ρ1, h1, ri, ρ2, h2, d, e, h3, h4, z, h5, h6⟩ := h
  refine ⟨.rv z, ρ2, ?_, h6⟩
  rw [ev_4, h1]
  simp only [h2, h3, h4]
  unfold itemD at h5
  split at h5
  · rename_i ts i heq
    cases heq
    simp only [itemD, h5]
  · rename_i s i heq
    cases heq
    simp only [itemD, h5]
  · rename_i ds i heq
    cases heq
    split at h5
    · rename_i t e1
      cases h5
      simp only [e1]
    · cases h5
  · rename_i ts i heq
    cases heq
    simp only [itemD, h5]
  · cases h5
/-- an item that is no pure thing: lent -/
theorem W_idxL (h : W Γ q a ρ fun r ρ1 => W Γ (q || lent r) b ρ1 fun ri ρ2 => ∃ ds k, valR ρ2 r = some (.l ds) ∧ valR ρ2 ri = some (.p (.int k)) ∧ KIl r ds k ρ2 Q) : W Γ q (.idx a b) ρ Q := by
  obtain ⟨r, ρ1, h1, ri, ρ2, h2, ds, k, h3, h4, d, h5, h6, h7, h8⟩ := h
  refine ⟨.bv d, ρ2, ?_, h8⟩
  rw [ev_4, h1]
  simp only [h2, h3, h4, h5]
  cases r with
  | rv e => exact absurd rfl (h7 e)
  | nm j => cases d <;> first | rfl | cases h6
  | bv e => cases d <;> first | rfl | cases h6
structure KMt (o : Op) (r r2 : R) (ρ1 ρ2 : List S) (Q : R → List S → Prop) : Prop where
  out : ∃ d0, valR ρ1 r = some d0 ∧ ∃ d, valR ρ2 r = some d ∧ sameK d0 d = true ∧ K2 o r r2 ρ2 Q
theorem K_mt {r2 : R} {d0 : D} (h1 : valR ρ1 r = some d0) (h2 : valR ρ2 r = some d) (h3 : sameK d0 d = true) (f : K2 o r r2 ρ2 Q) : KMt o r r2 ρ1 ρ2 Q := ⟨d0, h1, d, h2, h3, f⟩
theorem W_mth (h : W Γ q a ρ fun r ρ1 => W Γ (q || lent r) b ρ1 fun r2 ρ2 => KMt o r r2 ρ1 ρ2 Q) : W Γ q (.mth o a b) ρ Q := by
  obtain ⟨r, ρ1, h1, r2, ρ2, h2, d0, h3, d, h4, h5, x, y, h6, h7, z, h8, h9⟩ := h
  rw [h4] at h6
  cases h6
  exact ⟨.rv z, ρ2, by rw [show PF.ev Γ q (.mth o a b) ρ = _ from ev_5 .., h1]; simp only [h2, h3, h4, h7, h5, if_true, h8, Option.map_some], h9⟩
structure KSl1 (r : R) (ρ : List S) (F : Int → Prop) : Prop where
  out : ∃ i, valR ρ r = some (.p (.int i)) ∧ F i
structure KSl2 (r r3 : R) (i : Int) (ρ : List S) (Q : R → List S → Prop) : Prop where
  out : ∃ d j z, valR ρ r = some d ∧ valR ρ r3 = some (.p (.int j)) ∧ sliceV d (some i) (some j) = some z ∧ Q (.rv z) ρ
theorem K_sl1 {i : Int} {F : Int → Prop} (h : valR ρ r = some (.p (.int i))) (f : F i) : KSl1 r ρ F := ⟨i, h, f⟩
theorem K_sl2 {r3 : R} {i j : Int} (h1 : valR ρ r = some d) (h2 : valR ρ r3 = some (.p (.int j))) (h3 : sliceV d (some i) (some j) = some z) (f : Q (.rv z) ρ) : KSl2 r r3 i ρ Q := ⟨d, j, z, h1, h2, h3, f⟩
theorem W_slc {l u : Ex} (h : W Γ q a ρ fun r ρ1 => W Γ (q || lent r) l ρ1 fun r2 ρ2 => KSl1 r2 ρ2 fun i => W Γ (q || lent r) u ρ2 fun r3 ρ3 => KSl2 r r3 i ρ3 Q) : W Γ q (.slc a l u) ρ Q := by
  obtain ⟨r, ρ1, h1, r2, ρ2, h2, i, h3, r3, ρ3, h4, d, j, z, h5, h6, h7, h8⟩ := h
  exact ⟨.rv z, ρ3, by rw [show PF.ev Γ q (.slc a l u) ρ = _ from ev_6 .., h1]; simp only [h2, h3, h4, h5, h6, h7, Option.map_some], h8⟩
theorem WL_nil (h : QL [] ρ) : WL Γ q [] ρ QL := ⟨_, _, evL_1 .., h⟩
theorem WL_cons (h : W Γ q e ρ fun r ρ1 => WL Γ (q || lent r) es ρ1 fun rs ρ2 => QL (r :: rs) ρ2) : WL Γ q (e :: es) ρ QL := by
  obtain ⟨r, ρ1, h1, rs, ρ2, h2, h3⟩ := h
  exact ⟨_, _, by rw [evL_2, h1]; simp only [h2], h3⟩
structure KLm (n : Nat) (P : Prop) : Prop where
  out : n ≤ LIM ∧ P
structure KTu (ds : List D) (ρ : List S) (Q : R → List S → Prop) : Prop where
  out : ∃ ts, pures ds = some ts ∧ ds.length ≤ LIM ∧ Q (.rv (.p (.tup ts))) ρ
theorem K_lm {n : Nat} {P : Prop} (h : n ≤ LIM) (f : P) : KLm n P := ⟨h, f⟩
theorem K_tu {ds : List D} {ts : List T} (h : pures ds = some ts) (h2 : ds.length ≤ LIM) (f : Q (.rv (.p (.tup ts))) ρ) : KTu ds ρ Q := ⟨ts, h, h2, f⟩
/-- a display -/
structure KO (q : Bool) (rs : List R) (ρ : List S) (Q : List D → List S → Prop) : Prop where
  out : ∃ ds ρ', ownL q ρ rs = some (ds, ρ') ∧ Q ds ρ'
theorem K_oN {Q : List D → List S → Prop} (h : Q [] ρ) : KO q [] ρ Q := ⟨_, _, rfl, h⟩
theorem K_oC {rs : List R} {Q : List D → List S → Prop} (h1 : PF.own q ρ r = some (d, ρ1)) (h : KO q rs ρ1 fun ds ρ2 => Q (d :: ds) ρ2) : KO q (r :: rs) ρ Q := by
  obtain ⟨ds, ρ', h2, h3⟩ := h
  exact ⟨_, _, by simp only [ownL, h1, h2], h3⟩
theorem W_tup (h : WL Γ q es ρ fun rs ρ1 => KO q rs ρ1 fun ds ρ2 => KTu ds ρ2 Q) : W Γ q (.tup es) ρ Q := by
  obtain ⟨rs, ρ1, h1, ds, ρ2, h2, ts, h3, h4, h5⟩ := h
  exact ⟨_, _, by rw [show PF.ev Γ q (.tup es) ρ = _ from ev_7 .., h1]; simp only [h2, h4, if_true, mkTup, h3], h5⟩
theorem W_tupU (h : WL Γ q es ρ fun rs ρ1 => KO q rs ρ1 fun ds ρ2 => pures ds = none ∧ ds.length ≤ LIM ∧ Q (.rv (.u ds)) ρ2) : W Γ q (.tup es) ρ Q := by
  obtain ⟨rs, ρ1, h1, ds, ρ2, h2, h3, h4, h5⟩ := h
  exact ⟨_, _, by rw [show PF.ev Γ q (.tup es) ρ = _ from ev_7 .., h1]; simp only [h2, h4, if_true, mkTup, h3], h5⟩
theorem W_lst (h : WL Γ q es ρ fun rs ρ1 => KO q rs ρ1 fun ds ρ2 => KLm ds.length (Q (.rv (.l ds)) ρ2)) : W Γ q (.lst es) ρ Q := by
  obtain ⟨rs, ρ1, h1, ds, ρ2, h2, h4, h5⟩ := h
  exact ⟨_, _, by rw [show PF.ev Γ q (.lst es) ρ = _ from ev_8 .., h1]; simp only [h2, h4, if_true], h5⟩
/-- a and b: one behind the other, of which each may change the places -/
theorem W_andX (h : W Γ q a ρ fun r ρ1 => ∃ k, truR ρ1 r = some k ∧ (k = true → W Γ q b ρ1 Q) ∧ (k = false → Q r ρ1)) : W Γ q (.and_ a b) ρ Q := by
  obtain ⟨r, ρ1, h1, k, h2, h3, h4⟩ := h
  cases k with
  | true =>
    obtain ⟨r2, ρ2, h5, h6⟩ := h3 rfl
    exact ⟨r2, ρ2, by rw [show PF.ev Γ q (.and_ a b) ρ = _ from ev_9 .., h1]; simp only [h2, h5], h6⟩
  | false => exact ⟨r, ρ1, by rw [show PF.ev Γ q (.and_ a b) ρ = _ from ev_9 .., h1]; simp only [h2], h4 rfl⟩
theorem W_orX (h : W Γ q a ρ fun r ρ1 => ∃ k, truR ρ1 r = some k ∧ (k = false → W Γ q b ρ1 Q) ∧ (k = true → Q r ρ1)) : W Γ q (.or_ a b) ρ Q := by
  obtain ⟨r, ρ1, h1, k, h2, h3, h4⟩ := h
  cases k with
  | false =>
    obtain ⟨r2, ρ2, h5, h6⟩ := h3 rfl
    exact ⟨r2, ρ2, by rw [show PF.ev Γ q (.or_ a b) ρ = _ from ev_10 .., h1]; simp only [h2, h5], h6⟩
  | true => exact ⟨r, ρ1, by rw [show PF.ev Γ q (.or_ a b) ρ = _ from ev_10 .., h1]; simp only [h2], h4 rfl⟩
/-- a and b, of which the second changes nothing -/
structure isB (k : Bool) (ρ : List S) (r : R) (ρ' : List S) : Prop where
  out : r = .rv (.p (.bl k)) ∧ ρ' = ρ
structure isV (d : D) (ρ : List S) (r : R) (ρ' : List S) : Prop where
  out : r = .rv d ∧ ρ' = ρ
theorem isB_ : isB k ρ (.rv (.p (.bl k))) ρ := ⟨rfl, rfl⟩
theorem isV_ : isV d ρ (.rv d) ρ := ⟨rfl, rfl⟩
structure KA (b : Ex) (Γ : List CT) (q : Bool) (r : R) (ρ : List S) (Q : R → List S → Prop) : Prop where
  out : ∃ k k2, r = .rv (.p (.bl k)) ∧ (k = true → W Γ q b ρ (isB k2 ρ)) ∧ Q (.rv (.p (.bl (k && k2)))) ρ
structure KOr (b : Ex) (Γ : List CT) (q : Bool) (r : R) (ρ : List S) (Q : R → List S → Prop) : Prop where
  out : ∃ k k2, r = .rv (.p (.bl k)) ∧ (k = false → W Γ q b ρ (isB k2 ρ)) ∧ Q (.rv (.p (.bl (k || k2)))) ρ
theorem W_and (h : W Γ q a ρ fun r ρ1 => KA b Γ q r ρ1 Q) : W Γ q (.and_ a b) ρ Q :=
  W_andX (h.mono fun r ρ1 ⟨k, k2, h1, h2, h3⟩ => ⟨k, by rw [h1]; rfl, fun e => (h2 e).mono fun r' ρ' ⟨h4, h5⟩ => by rw [h4, h5]; subst e; exact h3, fun e => by rw [h1]; subst e; exact h3⟩)
theorem W_or (h : W Γ q a ρ fun r ρ1 => KOr b Γ q r ρ1 Q) : W Γ q (.or_ a b) ρ Q :=
  W_orX (h.mono fun r ρ1 ⟨k, k2, h1, h2, h3⟩ => ⟨k, by rw [h1]; rfl, fun e => (h2 e).mono fun r' ρ' ⟨h4, h5⟩ => by rw [h4, h5]; subst e; exact h3, fun e => by rw [h1]; subst e; exact h3⟩)
theorem K_and {k2 : Bool} (h : k = true → W Γ q b ρ (isB k2 ρ)) (f : Q (.rv (.p (.bl (k && k2)))) ρ) : KA b Γ q (.rv (.p (.bl k))) ρ Q := ⟨k, k2, rfl, h, f⟩
theorem K_or {k2 : Bool} (h : k = false → W Γ q b ρ (isB k2 ρ)) (f : Q (.rv (.p (.bl (k || k2)))) ρ) : KOr b Γ q (.rv (.p (.bl k))) ρ Q := ⟨k, k2, rfl, h, f⟩
theorem K_orT (f : Q (.rv (.p (.bl true))) ρ) : KOr b Γ q (.rv (.p (.bl true))) ρ Q := ⟨true, true, rfl, fun e => Bool.noConfusion e, f⟩
theorem K_orF {k2 : Bool} (h : W Γ q b ρ (isB k2 ρ)) (f : Q (.rv (.p (.bl k2))) ρ) : KOr b Γ q (.rv (.p (.bl false))) ρ Q := ⟨false, k2, rfl, fun _ => h, f⟩
theorem K_andF (f : Q (.rv (.p (.bl false))) ρ) : KA b Γ q (.rv (.p (.bl false))) ρ Q := ⟨false, false, rfl, fun e => Bool.noConfusion e, f⟩
theorem K_andT {k2 : Bool} (h : W Γ q b ρ (isB k2 ρ)) (f : Q (.rv (.p (.bl k2))) ρ) : KA b Γ q (.rv (.p (.bl true))) ρ Q := ⟨true, k2, rfl, fun _ => h, f⟩
structure KT (r : R) (ρ : List S) (Q : Bool → Prop) : Prop where
  out : ∃ k, truR ρ r = some k ∧ Q k
theorem K_t {Q : Bool → Prop} (h : truR ρ r = some k) (f : Q k) : KT r ρ Q := ⟨k, h, f⟩
theorem W_not (h : W Γ q a ρ fun r ρ1 => KT r ρ1 fun k => Q (.rv (.p (.bl !k))) ρ1) : W Γ q (.not_ a) ρ Q := by
  obtain ⟨r, ρ1, h1, k, h2, h3⟩ := h
  exact ⟨_, _, by rw [show PF.ev Γ q (.not_ a) ρ = _ from ev_11 .., h1]; simp only [h2]; rfl, h3⟩
theorem W_ifX (h : W Γ q c ρ fun r ρ1 => KT r ρ1 fun k => (k = true → W Γ q a ρ1 Q) ∧ (k = false → W Γ q b ρ1 Q)) : W Γ q (.ifx c a b) ρ Q := by
  obtain ⟨r, ρ1, h1, k, h2, h3, h4⟩ := h
  cases k with
  | true =>
    obtain ⟨r2, ρ2, h5, h6⟩ := h3 rfl
    exact ⟨r2, ρ2, by rw [show PF.ev Γ q (.ifx c a b) ρ = _ from ev_12 .., h1]; simp only [h2, h5], h6⟩
  | false =>
    obtain ⟨r2, ρ2, h5, h6⟩ := h4 rfl
    exact ⟨r2, ρ2, by rw [show PF.ev Γ q (.ifx c a b) ρ = _ from ev_12 .., h1]; simp only [h2, h5], h6⟩
/-- two values that change nothing -/
theorem W_ifV {F : Bool → D} (h : W Γ q c ρ fun r ρ1 => KT r ρ1 fun k => (k = true → W Γ q a ρ1 (isV (F true) ρ1)) ∧ (k = false → W Γ q b ρ1 (isV (F false) ρ1)) ∧ Q (.rv (F k)) ρ1) : W Γ q (.ifx c a b) ρ Q :=
  W_ifX (h.mono fun r ρ1 ⟨k, h1, h2, h3, h4⟩ => ⟨k, h1, fun e => (h2 e).mono fun r' ρ' ⟨h5, h6⟩ => by rw [h5, h6, ← e]; exact h4, fun e => (h3 e).mono fun r' ρ' ⟨h5, h6⟩ => by rw [h5, h6, ← e]; exact h4⟩)
theorem W_ifI {x y : Bool → Int} (h : W Γ q c ρ fun r ρ1 => KT r ρ1 fun k => (k = true → W Γ q a ρ1 (isV (.p (.int (x k))) ρ1)) ∧ (k = false → W Γ q b ρ1 (isV (.p (.int (y k))) ρ1)) ∧ Q (.rv (.p (.int (if k = true then x k else y k)))) ρ1) : W Γ q (.ifx c a b) ρ Q :=
  W_ifX (h.mono fun r ρ1 ⟨k, h1, h2, h3, h4⟩ => ⟨k, h1, fun e => (h2 e).mono fun r' ρ' ⟨h5, h6⟩ => by rw [h5, h6]; rw [if_pos e] at h4; exact h4, fun e => (h3 e).mono fun r' ρ' ⟨h5, h6⟩ => by rw [h5, h6]; rw [if_neg (by rw [e]; decide)] at h4; exact h4⟩)
theorem W_ifT {x y : T} (h : W Γ q c ρ fun r ρ1 => KT r ρ1 fun k => (k = true → W Γ q a ρ1 (isV (.p x) ρ1)) ∧ (k = false → W Γ q b ρ1 (isV (.p y) ρ1)) ∧ Q (.rv (.p (if k = true then x else y))) ρ1) : W Γ q (.ifx c a b) ρ Q :=
  W_ifX (h.mono fun r ρ1 ⟨k, h1, h2, h3, h4⟩ => ⟨k, h1, fun e => (h2 e).mono fun r' ρ' ⟨h5, h6⟩ => by rw [h5, h6]; rw [if_pos e] at h4; exact h4, fun e => (h3 e).mono fun r' ρ' ⟨h5, h6⟩ => by rw [h5, h6]; rw [if_neg (by rw [e]; decide)] at h4; exact h4⟩)
structure KCe (o2 : Op) (y : T) (k2 : Bool) (ρ : List S) (r3 : R) (ρ3 : List S) : Prop where
  out : ∃ z, r3 = .rv (.p z) ∧ ρ3 = ρ ∧ opD o2 [.p y, .p z] = some (.p (.bl k2))
theorem K_ce {y z : T} {k2 : Bool} (h : opD o2 [.p y, .p z] = some (.p (.bl k2))) : KCe o2 y k2 ρ (.rv (.p z)) ρ := ⟨z, rfl, rfl, h⟩
structure KC (o1 o2 : Op) (c : Ex) (Γ : List CT) (q : Bool) (r1 r2 : R) (ρ : List S) (Q : R → List S → Prop) : Prop where
  out : ∃ x y k1 k2, r1 = .rv (.p x) ∧ r2 = .rv (.p y) ∧ opD o1 [.p x, .p y] = some (.p (.bl k1)) ∧ (k1 = true → W Γ q c ρ (KCe o2 y k2 ρ)) ∧ Q (.rv (.p (.bl (k1 && k2)))) ρ
theorem W_chain (h : W Γ q a ρ fun r1 ρ1 => W Γ q b ρ1 fun r2 ρ2 => KC o1 o2 c Γ q r1 r2 ρ2 Q) : W Γ q (.chain o1 o2 a b c) ρ Q := by
  obtain ⟨r1, ρ1, h1, r2, ρ2, h2, x, y, k1, k2, rfl, rfl, h3, h4, h5⟩ := h
  have e0 := (show PF.ev Γ q (.chain o1 o2 a b c) ρ = _ from ev_13 ..)
  rw [h1] at e0
  simp only [valR, h2, h3] at e0
  cases k1 with
  | true =>
    obtain ⟨r3, ρ3, h6, z, rfl, rfl, h7⟩ := h4 rfl
    exact ⟨_, _, by rw [e0]; simp only [h6, valR, h7, Bool.true_and], h5⟩
  | false => exact ⟨_, _, e0, h5⟩
theorem K_c {x y : T} {k1 k2 : Bool} (h1 : opD o1 [.p x, .p y] = some (.p (.bl k1))) (h2 : k1 = true → W Γ q c ρ (KCe o2 y k2 ρ)) (f : Q (.rv (.p (.bl (k1 && k2)))) ρ) : KC o1 o2 c Γ q (.rv (.p x)) (.rv (.p y)) ρ Q := ⟨x, y, k1, k2, rfl, rfl, h1, h2, f⟩
/-! ### calls -/
structure KF (c : CT) (q : Bool) (rs : List R) (ds : List D) (ρ : List S) (Q : R → List S → Prop) : Prop where
  out : Sp c ds fun d os => ∃ ρ2, back ρ rs os = some ρ2 ∧ Q (.rv d) ρ2
structure KV (c : CT) (q : Bool) (rs : List R) (ρ : List S) (Q : R → List S → Prop) : Prop where
  out : ∃ ds, vals ρ rs = some ds ∧ (nodupB (nms rs) && (!q || (nms rs).isEmpty)) = true ∧ KF c q rs ds ρ Q
theorem K_v {c : CT} {rs : List R} {ds : List D} (h1 : vals ρ rs = some ds) (h2 : (nodupB (nms rs) && (!q || (nms rs).isEmpty)) = true) (f : KF c q rs ds ρ Q) : KV c q rs ρ Q := ⟨ds, h1, h2, f⟩
theorem W_call {k : Nat} {c : CT} (h1 : Γ[k]? = some c) (h : WL Γ q es ρ fun rs ρ1 => KV c q rs ρ1 Q) : W Γ q (.call k es) ρ Q := by
  obtain ⟨rs, ρ1, h2, ds, h3, h4, d, os, h5, ρ2, h6, h7⟩ := h
  exact ⟨_, _, by rw [ev_15, h2, h1]; simp only [callD, h3, h4, if_true, h5, h6, Option.map_some], h7⟩
/-! ### comprehensions -/
/-- the walk's items -/
def Its (w : Wk) (ρ : List S) (ds : List D) : Prop := w.len = ds.length ∧ w.ok ρ = true ∧ ∀ j < ds.length, w.at ρ j = ds[j]?
theorem Its.of {w : Wk} {ds : List D} (h : itemsW w = some ds) : Its w ρ ds := ⟨(itemsW_ok h).1, ((itemsW_ok h).2 ρ).1, fun j _ => ((itemsW_ok h).2 ρ).2 j⟩
theorem filterMap_get {α β : Type} (g : α → Option β) (xs : List α) : (List.range xs.length).filterMap (fun i => xs[i]?.bind g) = xs.filterMap g := by
  have h : ∀ l : List α, (List.range l.length).filterMap (fun i => l[i]?.bind g) = l.filterMap g := fun l => by
    induction l with
    | nil => rfl
    | cons a l ih =>
      rw [List.length_cons, List.range_succ_eq_map, List.filterMap_cons, List.filterMap_map]
      simp only [List.getElem?_cons_zero, Option.bind_some, Function.comp_def, List.getElem?_cons_succ]
      rw [ih, List.filterMap_cons]
  exact h xs
/-- the walk over what has been told: its items; whether they are lent -/
structure Src (kind : Nat) (rs : List R) (ρ1 ρ0 : List S) (b : Bool) (ds : List D) : Prop where
  out : ∃ w, srcK ρ1 kind rs = some w ∧ Its w ρ0 ds ∧ w.isLent = b
/-- what a comprehension does with one item -/
structure KN (q : Bool) (tg : Tg) (ρ0 : List S) (g : D) (r : R) (ρ4 : List S) : Prop where
  out : ∃ ρ5, PF.own q ρ4 r = some (g, ρ5) ∧ kill ρ5 tg.own = ρ0
structure KE (Γ : List CT) (q b : Bool) (elt : Ex) (tg : Tg) (ρ0 : List S) (d g : D) : Prop where
  out : ∃ ρ2, bind b tg d ρ0 = some ρ2 ∧ W Γ (q || b) elt ρ2 (KN (q || b) tg ρ0 g)
structure KEc (Γ : List CT) (q b : Bool) (elt c : Ex) (tg : Tg) (ρ0 : List S) (d : D) (p : Bool) (g : D) : Prop where
  out : ∃ ρ2, bind b tg d ρ0 = some ρ2 ∧ W Γ (q || b) c ρ2 fun rc ρ3 => KT rc ρ3 fun k => k = p ∧ kill ρ3 tg.own = ρ0 ∧ (k = true → W Γ (q || b) elt ρ3 (KN (q || b) tg ρ0 g))
theorem K_n {tg : Tg} {ρ0 ρ4 ρ5 : List S} {g : D} (h1 : PF.own q ρ4 r = some (g, ρ5)) (h2 : kill ρ5 tg.own = ρ0) : KN q tg ρ0 g r ρ4 := ⟨ρ5, h1, h2⟩
theorem K_e {b : Bool} {tg : Tg} {ρ0 : List S} {d g : D} (h1 : bind b tg d ρ0 = some ρ2) (h2 : W Γ (q || b) e ρ2 (KN (q || b) tg ρ0 g)) : KE Γ q b e tg ρ0 d g := ⟨ρ2, h1, h2⟩
theorem K_ec {b : Bool} {tg : Tg} {ρ0 : List S} {d g : D} {p : Bool} (h1 : bind b tg d ρ0 = some ρ2) (h2 : W Γ (q || b) c ρ2 fun rc ρ3 => KT rc ρ3 fun k => k = p ∧ kill ρ3 tg.own = ρ0 ∧ (k = true → W Γ (q || b) e ρ3 (KN (q || b) tg ρ0 g))) : KEc Γ q b e c tg ρ0 d p g := ⟨ρ2, h1, h2⟩
theorem filt_all {α : Type} (g : α → D) (p : α → Bool) : ∀ l : List α, l.filterMap (fun a => if p a = true then some (g a) else none) = (l.filter p).map g
  | [] => rfl
  | a :: l => by by_cases hp : p a = true <;> simp [hp, filt_all g p l]
/-- a comprehension without a test, and with one -/
structure KM0 (Γ : List CT) (q : Bool) (elt : Ex) (tg : Tg) (kind : Nat) (rs : List R) (ρ : List S) (Q : R → List S → Prop) : Prop where
  out : ∃ ρ0 b, kill ρ tg.own = ρ0 ∧ ∃ (α : Type) (xs : List α) (enc g : α → D), Src kind rs ρ ρ0 b (xs.map enc) ∧ xs.length ≤ LIM ∧ (∀ a ∈ xs, KE Γ q b elt tg ρ0 (enc a) (g a)) ∧ Q (.rv (.l (xs.map g))) ρ0
structure KM1 (Γ : List CT) (q : Bool) (elt c : Ex) (tg : Tg) (kind : Nat) (rs : List R) (ρ : List S) (Q : R → List S → Prop) : Prop where
  out : ∃ ρ0 b, kill ρ tg.own = ρ0 ∧ ∃ (α : Type) (xs : List α) (enc g : α → D) (p : α → Bool), Src kind rs ρ ρ0 b (xs.map enc) ∧ xs.length ≤ LIM ∧ (∀ a ∈ xs, KEc Γ q b elt c tg ρ0 (enc a) (p a) (g a)) ∧ Q (.rv (.l ((xs.filter p).map g))) ρ0
theorem K_m0 {α : Type} {xs : List α} {enc g : α → D} {tg : Tg} {kind : Nat} {rs : List R} {ρ0 : List S} {b : Bool} (h0 : kill ρ tg.own = ρ0) (h1 : Src kind rs ρ ρ0 b (xs.map enc)) (h2 : xs.length ≤ LIM) (h3 : ∀ a, a ∈ xs → KE Γ q b e tg ρ0 (enc a) (g a)) (f : Q (.rv (.l (xs.map g))) ρ0) : KM0 Γ q e tg kind rs ρ Q :=
  ⟨ρ0, b, h0, α, xs, enc, g, h1, h2, h3, f⟩
theorem K_m1 {α : Type} {xs : List α} {enc g : α → D} {p : α → Bool} {tg : Tg} {kind : Nat} {rs : List R} {ρ0 : List S} {b : Bool} (h0 : kill ρ tg.own = ρ0) (h1 : Src kind rs ρ ρ0 b (xs.map enc)) (h2 : xs.length ≤ LIM) (h3 : ∀ a, a ∈ xs → KEc Γ q b e c tg ρ0 (enc a) (p a) (g a)) (f : Q (.rv (.l ((xs.filter p).map g))) ρ0) : KM1 Γ q e c tg kind rs ρ Q :=
  ⟨ρ0, b, h0, α, xs, enc, g, p, h1, h2, h3, f⟩
theorem W_comp0 {tg : Tg} {kind : Nat} {src : List Ex} (h : WL Γ q src ρ fun rs ρ1 => KM0 Γ q e tg kind rs ρ1 Q) : W Γ q (.comp e tg kind src []) ρ Q := by
  obtain ⟨rs, ρ1, h1, ρ0, b, h0, α, xs, enc, g, ⟨w, h2, ⟨h3, h3', h3''⟩, hb⟩, h4, h5, h6⟩ := h
  subst h0 hb
  refine ⟨_, _, ?_, h6⟩
  rw [List.length_map] at h3
  rw [ev_compP (elt := e) (tg := tg) (conds := []) (fun i => xs[i]?.bind fun a => some (g a)) h3 h1 h2 h4 (fun i hi => ?_) h3', filterMap_get]
  · congr 3
    rw [List.filterMap_eq_map']
  · obtain ⟨ρ2, k1, r, ρ4, k5, ρ5, k6, k7⟩ := h5 xs[i] (List.getElem_mem hi)
    exact ⟨enc xs[i], ρ2, by rw [h3'' i (by simpa using hi), List.getElem?_map, List.getElem?_eq_getElem hi]; rfl, by rw [kill_kill]; exact k1, .inr ⟨ρ2, r, ρ4, g xs[i], ρ5, by rw [evT_1], k5, k6, by rw [List.getElem?_eq_getElem hi]; rfl, k7⟩⟩
theorem W_comp1 {tg : Tg} {kind : Nat} {src : List Ex} (h : WL Γ q src ρ fun rs ρ1 => KM1 Γ q e c tg kind rs ρ1 Q) : W Γ q (.comp e tg kind src [c]) ρ Q := by
  obtain ⟨rs, ρ1, h1, ρ0, b, h0, α, xs, enc, g, p, ⟨w, h2, ⟨h3, h3', h3''⟩, hb⟩, h4, h5, h6⟩ := h
  subst h0 hb
  refine ⟨_, _, ?_, h6⟩
  rw [List.length_map] at h3
  rw [ev_compP (elt := e) (tg := tg) (conds := [c]) (fun i => xs[i]?.bind fun a => if p a = true then some (g a) else none) h3 h1 h2 h4 (fun i hi => ?_) h3', filterMap_get]
  · congr 3
    exact congrArg D.l (filt_all g p xs)
  · obtain ⟨ρ2, k1, rc, ρ3, k2, kk, k3, k4, k5, k6⟩ := h5 xs[i] (List.getElem_mem hi)
    refine ⟨enc xs[i], ρ2, by rw [h3'' i (by simpa using hi), List.getElem?_map, List.getElem?_eq_getElem hi]; rfl, by rw [kill_kill]; exact k1, ?_⟩
    cases hp : p xs[i] with
    | false => exact .inl ⟨ρ3, by rw [evT_2, k2]; simp only [k3, k4, hp], by rw [List.getElem?_eq_getElem hi]; simp [hp], k5⟩
    | true =>
      obtain ⟨r, ρ4, k7, ρ5, k8, k9⟩ := k6 (by rw [k4, hp])
      exact .inr ⟨ρ3, r, ρ4, g xs[i], ρ5, by rw [evT_2, k2]; simp only [k3, k4, hp], k7, k8, by rw [List.getElem?_eq_getElem hi]; simp [hp], k9⟩
/-! ### what is walked -/
def IsSeq {α : Type} (t : T) (xs : List α) (f : α → T) : Prop := t = .tup (xs.map f)
def IsLst {α : Type} (ds : List D) (xs : List α) (f : α → T) : Prop := ds = xs.map fun a => .p (f a)
theorem isSeq_map {α : Type} {xs : List α} {f : α → T} : IsSeq (.tup (xs.map f)) xs f := rfl
theorem isSeq_id {ts : List T} : IsSeq (.tup ts) ts id := by unfold IsSeq; rw [List.map_id]
theorem isLst_map {α : Type} {xs : List α} {f : α → T} : IsLst (xs.map fun a => .p (f a)) xs f := rfl
theorem isLst_map2 {α : Type} {xs : List α} {f : α → T} : IsLst ((xs.map f).map D.p) xs f := by unfold IsLst; rw [List.map_map]; rfl
theorem IsLst.pures {α : Type} {ds : List D} {xs : List α} {f : α → T} (h : IsLst ds xs f) : PF.pures ds = some (xs.map f) := by rw [h, pures_mapP]
/-- one source, as a row of items -/
inductive Sc (ρ1 ρ0 : List S) : R → {α : Type} → List α → (α → T) → Prop
  | tup {α : Type} {t : T} {xs : List α} {f : α → T} : IsSeq t xs f → Sc ρ1 ρ0 (.rv (.p t)) xs f
  | lst {α : Type} {ds : List D} {xs : List α} {f : α → T} : IsLst ds xs f → Sc ρ1 ρ0 (.rv (.l ds)) xs f
  | live {α : Type} {i : Nat} {ds : List D} {xs : List α} {f : α → T} : look ρ1 i = .val (.l ds) → look ρ0 i = .val (.l ds) → IsLst ds xs f → Sc ρ1 ρ0 (.nm i) xs f
theorem Sc.sq {ρ1 ρ0 : List S} {α : Type} {xs : List α} {f : α → T} (h : Sc ρ1 ρ0 r xs f) : ∃ a, sqOf ρ1 r = some a ∧ a.len = xs.length ∧ a.ok ρ0 = true ∧ ∀ j < xs.length, a.at ρ0 j = (xs.map f)[j]? := by
  cases h with
  | tup h => unfold IsSeq at h; subst h; exact ⟨.fix (xs.map f), rfl, by simp [Sq.len], rfl, fun j _ => rfl⟩
  | lst h => exact ⟨.fix (xs.map f), by simp only [sqOf, h.pures, Option.map_some], by simp [Sq.len], rfl, fun j _ => rfl⟩
  | @live _ i ds _ _ h1 h0 h =>
    have hl : ds.length = xs.length := by rw [h, List.length_map]
    refine ⟨.live i ds.length, by simp only [sqOf, h1, h.pures, Option.map_some], hl, by simp [Sq.ok, h0], fun j hj => ?_⟩
    simp only [Sq.at, liveAt, h0, if_true]
    rw [h, List.getElem?_map, List.getElem?_map, List.getElem?_eq_getElem hj]
    rfl
theorem src_one {ρ1 ρ0 : List S} {α : Type} {xs : List α} {f : α → T} (h : Sc ρ1 ρ0 r xs f) : Src 0 [r] ρ1 ρ0 false (xs.map fun a => D.p (f a)) := by
  obtain ⟨a, h1, h2, h3, h4⟩ := h.sq
  refine ⟨.one a, by simp only [srcK, h1], ⟨by rw [List.length_map]; exact h2, h3, fun j hj => ?_⟩, rfl⟩
  rw [List.length_map] at hj
  simp only [Wk.at, h4 j hj, List.getElem?_map, Option.map_map]
  rfl
theorem src_enum {ρ1 ρ0 : List S} {α : Type} {xs : List α} {f : α → T} (h : Sc ρ1 ρ0 r xs f) : Src 3 [r] ρ1 ρ0 false (xs.zipIdx.map fun a => D.p (.tup [.int (a.2 : Nat), f a.1])) := by
  obtain ⟨a, h1, h2, h3, h4⟩ := h.sq
  refine ⟨.enum a, by simp only [srcK, h1, Option.map_some], ⟨by simp; exact h2, h3, fun j hj => ?_⟩, rfl⟩
  simp at hj
  simp only [Wk.at, h4 j hj, List.getElem?_map, List.getElem?_zipIdx]
  rw [List.getElem?_eq_getElem hj]
  simp
theorem src_zip {ρ1 ρ0 : List S} {α β : Type} {r2 : R} {xs : List α} {f : α → T} {ys : List β} {g : β → T} (h : Sc ρ1 ρ0 r xs f) (h' : Sc ρ1 ρ0 r2 ys g) : Src 4 [r, r2] ρ1 ρ0 false ((xs.zip ys).map fun a => D.p (.tup [f a.1, g a.2])) := by
  obtain ⟨a, h1, h2, h3, h4⟩ := h.sq
  obtain ⟨b, k1, k2, k3, k4⟩ := h'.sq
  refine ⟨.zip a b, by simp only [srcK, h1, k1], ⟨by simp [Wk.len, h2, k2], by simp [Wk.ok, h3, k3], fun j hj => ?_⟩, rfl⟩
  have hj : j < xs.length ∧ j < ys.length := by simp at hj; omega
  simp only [Wk.at, h4 j hj.1, k4 j hj.2, List.getElem?_map, h3, k3, Bool.and_self, if_true]
  have hz : (xs.zip ys)[j]? = some (xs[j], ys[j]) := by rw [List.getElem?_eq_getElem (by simp; omega)]; simp
  rw [hz, List.getElem?_eq_getElem hj.1, List.getElem?_eq_getElem hj.2]
  rfl
theorem rng_src {lo : Int} {n : Nat} {ρ0 : List S} : Its (.rng lo n) ρ0 ((List.range n).map fun (i : Nat) => .p (.int (lo + i))) := Its.of rfl
theorem src_r1 {n : Nat} {ρ1 ρ0 : List S} (h : valR ρ1 r = some (.p (.int n))) (hn : n < 2 ^ 61) : Src 1 [r] ρ1 ρ0 false ((List.range n).map fun (i : Nat) => .p (.int i)) := by
  have hr : rngOk 0 (n : Int) = true := by simp [rngOk]; omega
  have e : (fun (i : Nat) => D.p (.int (0 + (i : Int)))) = fun (i : Nat) => D.p (.int i) := by funext i; rw [Int.zero_add]
  have h2 := rng_src (lo := 0) (n := n) (ρ0 := ρ0)
  rw [e] at h2
  exact ⟨.rng 0 n, by simp only [srcK, h, rngS, hr, if_true, Int.sub_zero, Int.toNat_natCast], h2, rfl⟩
theorem src_r2 {a b : Int} {r2 : R} {ρ1 ρ0 : List S} (h : valR ρ1 r = some (.p (.int a))) (h' : valR ρ1 r2 = some (.p (.int b))) (ha : -(2 ^ 61) < a ∧ a < 2 ^ 61) (hb : -(2 ^ 61) < b ∧ b < 2 ^ 61) : Src 2 [r, r2] ρ1 ρ0 false ((List.range (b - a).toNat).map fun (i : Nat) => .p (.int (a + i))) := by
  have hr : rngOk a b = true := by simp [rngOk]; omega
  exact ⟨.rng a (b - a).toNat, by simp only [srcK, h, h', rngS, hr, if_true], rng_src, rfl⟩
end
end PF

set_option Elab.async false
set_option linter.all false
set_option maxRecDepth 100000
/-! PF31: statements, from behind -/
namespace PF
section
variable {Γ : List CT} {q : Bool} {ρ ρ1 ρ2 ρ3 : List S} {o o1 o2 : Op} {a b c e : Ex} {es : List Ex} {x y z d : D} {k : Bool} {i j : Nat} {t : T} {r : R} {Q : Out → Prop} {ss : List St}
theorem runs_append : ∀ (as : List St) {bs : List St} {ρ : List S}, runs Γ (as ++ bs) ρ = match runs Γ as ρ with | some (.nx ρ1) => runs Γ bs ρ1 | o => o
  | [], bs, ρ => by rw [List.nil_append, runs_0]
  | s :: as, bs, ρ => by
    rw [List.cons_append, runs_2, runs_2]
    cases run Γ s ρ with
    | none => rfl
    | some o =>
      cases o with
      | nx ρ1 => exact runs_append as
      | rt _ _ => rfl
      | bk _ => rfl
      | ct _ => rfl
theorem WS_nil (h : Q (.nx ρ)) : WS Γ [] ρ Q := ⟨_, runs_0, h⟩
/-- behind a statement that goes on -/
theorem WS.nx {s : St} (h : run Γ s ρ = some (.nx ρ1)) (f : WS Γ ss ρ1 Q) : WS Γ (s :: ss) ρ Q := by
  obtain ⟨o, h1, h2⟩ := f
  exact ⟨o, runs_nx h h1, h2⟩
structure KP (i : Nat) (d : D) (ρ : List S) (f : List S → Prop) : Prop where
  out : ∃ ρ', put ρ i (.val d) = ρ' ∧ f ρ'
structure KW (r : R) (ρ : List S) (f : D → List S → Prop) : Prop where
  out : ∃ d ρ', PF.own false ρ r = some (d, ρ') ∧ f d ρ'
theorem K_w {f : D → List S → Prop} (h : PF.own false ρ r = some (d, ρ1)) (k : f d ρ1) : KW r ρ f := ⟨_, _, h, k⟩
theorem K_p {f : List S → Prop} (h : put ρ i (.val d) = ρ1) (k : f ρ1) : KP i d ρ f := ⟨_, h, k⟩
theorem WS_asg (h : W Γ false e ρ fun r ρ1 => KW r ρ1 fun d ρ2 => KP i d ρ2 fun ρ3 => WS Γ ss ρ3 Q) : WS Γ (.asg i e :: ss) ρ Q := by
  obtain ⟨r, ρ1, h1, d, ρ2, h2, ρ3, h3, h4⟩ := h
  refine WS.nx (ρ1 := ρ3) ?_ h4
  rw [run_1, evOwn_1, h1]; simp only [h2, h3]
structure KPs (is : List Nat) (ds : List D) (ρ : List S) (f : List S → Prop) : Prop where
  out : ∃ ρ', putAll ρ is (ds.map .val) = some ρ' ∧ f ρ'
theorem K_ps {is : List Nat} {ds : List D} {f : List S → Prop} (h : putAll ρ is (ds.map .val) = some ρ1) (k : f ρ1) : KPs is ds ρ f := ⟨_, h, k⟩
structure KU (d : D) (f : List D → Prop) : Prop where
  out : ∃ ds, unpk d = some ds ∧ f ds
theorem K_u {d : D} {ds : List D} {f : List D → Prop} (h : unpk d = some ds) (k : f ds) : KU d f := ⟨_, h, k⟩
theorem WS_asgT {is : List Nat} (h : W Γ false e ρ fun r ρ1 => KW r ρ1 fun d ρ2 => KU d fun ds => KPs is ds ρ2 fun ρ3 => WS Γ ss ρ3 Q) : WS Γ (.asgT is e :: ss) ρ Q := by
  obtain ⟨r, ρ1, h1, d, ρ2, h2, ds, h3, ρ3, h4, h5⟩ := h
  refine WS.nx (ρ1 := ρ3) ?_ h5
  rw [run_2, evOwn_1, h1]; simp only [h2, h3, h4, Option.map_some]
/-- a display straight to names -/
theorem WS_asgD {is : List Nat} (h : WL Γ false es ρ fun rs ρ1 => KO false rs ρ1 fun ds ρ2 => KLm ds.length (KPs is ds ρ2 fun ρ3 => WS Γ ss ρ3 Q)) : WS Γ (.asgT is (.tup es) :: ss) ρ Q := by
  obtain ⟨rs, ρ1, h1, ds, ρ2, h2, h3, ρ3, h4, h5⟩ := h
  refine WS.nx (ρ1 := ρ3) ?_ h5
  have hu : unpk (mkTup ds) = some ds := by
    unfold mkTup
    cases e4 : pures ds with
    | none => rfl
    | some ts => rw [pures_eq e4]; rfl
  rw [run_2, evOwn_1, show PF.ev Γ false (.tup es) ρ = _ from ev_7 .., h1]
  simp only [h2, h3, if_true, PF.own, hu, h4, Option.map_some]
/-- a value stored -/
structure KS (Γ : List CT) (t : Tgt) (d : D) (ρ : List S) (f : List S → Prop) : Prop where
  out : ∃ ρ', store Γ d ρ t = some ρ' ∧ f ρ'
theorem K_s {t : Tgt} {f : List S → Prop} (h : store Γ d ρ t = some ρ1) (k : f ρ1) : KS Γ t d ρ f := ⟨_, h, k⟩
theorem K_sn {f : List S → Prop} (h : KP i d ρ f) : KS Γ (.nm i) d ρ f := by
  obtain ⟨ρ', h1, h2⟩ := h
  exact ⟨ρ', by rw [store, h1], h2⟩
structure KSt1 (i : Nat) (d : D) (ri : R) (ρ ρx : List S) (f : List S → Prop) : Prop where
  out : ∃ k ds j ρ', valR ρ ri = some (.p (.int k)) ∧ look ρ i = .val (.l ds) ∧ L2.ixN ds.length k = some j ∧ put ρ i (.val (.l (ds.set j d))) = ρ' ∧ f ρ'
theorem K_s1 {f : List S → Prop} (h : W Γ true e ρ fun ri ρx => KSt1 i d ri ρ ρx f) : KS Γ (.s1 i e) d ρ f := by
  obtain ⟨ri, ρx, h1, k, ds, j, ρ', h2, h3, h4, h5, h6⟩ := h
  exact ⟨ρ', by simp only [store, h1, h2, h3, h4, h5], h6⟩
structure KSt2 (i : Nat) (d : D) (ri rj : R) (ρ : List S) (f : List S → Prop) : Prop where
  out : ∃ k k2 ds m es m2 ρ', valR ρ ri = some (.p (.int k)) ∧ valR ρ rj = some (.p (.int k2)) ∧ look ρ i = .val (.l ds) ∧ L2.ixN ds.length k = some m ∧ ds[m]? = some (.l es) ∧ L2.ixN es.length k2 = some m2 ∧ put ρ i (.val (.l (ds.set m (.l (es.set m2 d))))) = ρ' ∧ f ρ'
theorem K_s2 {f : List S → Prop} (h : W Γ true a ρ fun ri _ => W Γ true b ρ fun rj _ => KSt2 i d ri rj ρ f) : KS Γ (.s2 i a b) d ρ f := by
  obtain ⟨ri, _, h1, rj, _, h2, k, k2, ds, m, es, m2, ρ', h3, h4, h5, h6, h7, h8, h9, h10⟩ := h
  exact ⟨ρ', by simp only [store, h1, h2, h3, h4, h5, h6, h7, h8, h9], h10⟩
theorem WS_asg1 {t : Tgt} (h : W Γ false e ρ fun r ρ1 => KW r ρ1 fun d ρ2 => KS Γ t d ρ2 fun ρ3 => WS Γ ss ρ3 Q) : WS Γ (.asg1 t e :: ss) ρ Q := by
  obtain ⟨r, ρ1, h1, d, ρ2, h2, ρ3, h3, h4⟩ := h
  refine WS.nx (ρ1 := ρ3) ?_ h4
  rw [run_3, evOwn_1, h1]; simp only [h2, h3, Option.map_some]
structure KSs (Γ : List CT) (ts : List Tgt) (ds : List D) (ρ : List S) (f : List S → Prop) : Prop where
  out : ∃ ρ', stores Γ ρ ts ds = some ρ' ∧ f ρ'
theorem K_ssN {f : List S → Prop} (h : f ρ) : KSs Γ [] [] ρ f := ⟨_, rfl, h⟩
theorem K_ssC {t : Tgt} {ts : List Tgt} {ds : List D} {f : List S → Prop} (h : KS Γ t d ρ fun ρ1 => KSs Γ ts ds ρ1 f) : KSs Γ (t :: ts) (d :: ds) ρ f := by
  obtain ⟨ρ1, h1, ρ2, h2, h3⟩ := h
  exact ⟨ρ2, by simp only [stores, h1, h2], h3⟩
structure KUm (d : D) (F : List D → Prop) : Prop where
  out : ∃ us, d = .p (.tup us) ∧ F (us.map D.p)
theorem K_um {us : List T} {ds : List D} {F : List D → Prop} (h : us.map D.p = ds) (f : F ds) : KUm (.p (.tup us)) F := ⟨us, rfl, by rw [h]; exact f⟩
theorem WS_asgM {ts : List Tgt} (h : W Γ false e ρ fun r ρ1 => KW r ρ1 fun d ρ2 => KUm d fun ds => KSs Γ ts ds ρ2 fun ρ3 => WS Γ ss ρ3 Q) : WS Γ (.asgM ts e :: ss) ρ Q := by
  obtain ⟨r, ρ1, h1, d, ρ2, h2, ⟨us, h3, ρ3, h4, h5⟩⟩ := h
  refine WS.nx (ρ1 := ρ3) ?_ h5
  rw [run_4, evOwn_1, h1]; subst h3; simp only [h2, h4, Option.map_some]
structure KAg (o : Op) (i : Nat) (u : Int) (r : R) (ρ : List S) (f : List S → Prop) : Prop where
  out : ∃ v w ρ', valR ρ r = some (.p (.int v)) ∧ opD o [.p (.int u), .p (.int v)] = some (.p w) ∧ put ρ i (.val (.p w)) = ρ' ∧ f ρ'
theorem K_ag {u v : Int} {w : T} {f : List S → Prop} (h1 : valR ρ r = some (.p (.int v))) (h2 : opD o [.p (.int u), .p (.int v)] = some (.p w)) (h3 : put ρ i (.val (.p w)) = ρ1) (k : f ρ1) : KAg o i u r ρ f := ⟨v, w, ρ1, h1, h2, h3, k⟩
theorem WS_aug {u : Int} (h0 : look ρ i = .val (.p (.int u))) (h : W Γ false e ρ fun r ρ1 => KAg o i u r ρ1 fun ρ3 => WS Γ ss ρ3 Q) : WS Γ (.aug i o e :: ss) ρ Q := by
  obtain ⟨r, ρ1, h1, v, w, ρ', h2, h3, h4, h5⟩ := h
  refine WS.nx (ρ1 := ρ') ?_ h5
  rw [run_5, h0]; simp only [h1, h2, h3, h4]
structure KAp (i : Nat) (d : D) (ρ : List S) (f : List S → Prop) : Prop where
  out : ∃ ds ρ', look ρ i = .val (.l ds) ∧ ds.length < LIM ∧ put ρ i (.val (.l (ds ++ [d]))) = ρ' ∧ f ρ'
theorem K_ap {ds : List D} {f : List S → Prop} (h1 : look ρ i = .val (.l ds)) (h2 : ds.length < LIM) (h3 : put ρ i (.val (.l (ds ++ [d]))) = ρ1) (k : f ρ1) : KAp i d ρ f := ⟨ds, ρ1, h1, h2, h3, k⟩
theorem WS_app {ds0 : List D} (h0 : look ρ i = .val (.l ds0)) (h : W Γ false e ρ fun r ρ1 => KW r ρ1 fun d ρ2 => KAp i d ρ2 fun ρ3 => WS Γ ss ρ3 Q) : WS Γ (.app i e :: ss) ρ Q := by
  obtain ⟨r, ρ1, h1, d, ρ2, h2, ds, ρ', h3, h4, h5, h6⟩ := h
  refine WS.nx (ρ1 := ρ') ?_ h6
  rw [run_6, h0, evOwn_1, h1]; simp only [h2, h3, h4, if_true, h5]
structure KEx (i : Nat) (d : D) (ρ : List S) (f : List S → Prop) : Prop where
  out : ∃ es ds ρ', d = .l es ∧ look ρ i = .val (.l ds) ∧ ds.length + es.length ≤ LIM ∧ put ρ i (.val (.l (ds ++ es))) = ρ' ∧ f ρ'
theorem K_ex {es ds : List D} {f : List S → Prop} (h1 : look ρ i = .val (.l ds)) (h2 : ds.length + es.length ≤ LIM) (h3 : put ρ i (.val (.l (ds ++ es))) = ρ1) (k : f ρ1) : KEx i (.l es) ρ f := ⟨es, ds, ρ1, rfl, h1, h2, h3, k⟩
theorem WS_ext {ds0 : List D} (h0 : look ρ i = .val (.l ds0)) (h : W Γ false e ρ fun r ρ1 => KW r ρ1 fun d ρ2 => KEx i d ρ2 fun ρ3 => WS Γ ss ρ3 Q) : WS Γ (.ext i e :: ss) ρ Q := by
  obtain ⟨r, ρ1, h1, d, ρ2, h2, es, ds, ρ', rfl, h3, h4, h5, h6⟩ := h
  refine WS.nx (ρ1 := ρ') ?_ h6
  rw [run_7, h0, evOwn_1, h1]; simp only [h2, h3, h4, if_true, h5]
theorem WS_exp (h : W Γ false e ρ fun r ρ1 => WS Γ ss ρ1 Q) : WS Γ (.exp e :: ss) ρ Q := by
  obtain ⟨r, ρ1, h1, h2⟩ := h
  refine WS.nx (ρ1 := ρ1) ?_ h2
  rw [run_8, h1]
/-- if: each way goes on -/
structure KIf (Γ : List CT) (as bs : List St) (r : R) (ρ : List S) (Q : Out → Prop) : Prop where
  out : ∃ k, truR ρ r = some k ∧ (k = true → WS Γ as ρ Q) ∧ (k = false → WS Γ bs ρ Q)
theorem K_if {as bs : List St} (h : truR ρ r = some k) (h1 : k = true → WS Γ as ρ Q) (h2 : k = false → WS Γ bs ρ Q) : KIf Γ as bs r ρ Q := ⟨k, h, h1, h2⟩
theorem WS_ite {as bs : List St} (h : W Γ false c ρ fun r ρ1 => KIf Γ (as ++ ss) (bs ++ ss) r ρ1 Q) : WS Γ (.ite c as bs :: ss) ρ Q := by
  obtain ⟨r, ρ1, h1, k, h2, h3, h4⟩ := h
  have key : ∀ {as : List St} {kk : Bool}, k = kk → (run Γ (.ite c as as) ρ = runs Γ as ρ1) → True := fun _ _ => trivial
  cases k with
  | true =>
    obtain ⟨o, h5, h6⟩ := h3 rfl
    refine ⟨o, ?_, h6⟩
    rw [runs_append] at h5
    rw [runs_2, run_9, evTest_1, h1]
    simp only [h2]
    exact h5
  | false =>
    obtain ⟨o, h5, h6⟩ := h4 rfl
    refine ⟨o, ?_, h6⟩
    rw [runs_append] at h5
    rw [runs_2, run_9, evTest_1, h1]
    simp only [h2]
    exact h5
structure KR (r : R) (ρ : List S) (Q : Out → Prop) : Prop where
  out : KW r ρ fun d ρ' => Q (.rt d ρ')
theorem WS_ret (h : W Γ false e ρ fun r ρ1 => KW r ρ1 fun d ρ' => Q (.rt d ρ')) : WS Γ (.ret e :: ss) ρ Q := by
  obtain ⟨r, ρ1, h1, d, ρ2, h2, h3⟩ := h
  exact ⟨_, runs_rt (by rw [run_12, evOwn_1, h1]; simp only [h2]), h3⟩
theorem WS_retN (h : Q (.rt (.p .non) ρ)) : WS Γ (.retN :: ss) ρ Q := ⟨_, runs_rt (run_13 ..), h⟩
theorem WS_brk (h : Q (.bk ρ)) : WS Γ (.brk :: ss) ρ Q := ⟨_, by rw [runs_2, run_14], h⟩
theorem WS_cnt (h : Q (.ct ρ)) : WS Γ (.cnt :: ss) ρ Q := ⟨_, by rw [runs_2, run_15], h⟩
theorem WS_pass (h : WS Γ ss ρ Q) : WS Γ (.pass :: ss) ρ Q := WS.nx (run_16 ..) h
/-! ### loops -/
/-- what a turn's end means: the state that the next turn finds -/
def Nx0 (dead : List Nat) (Q : Out → Prop) (N B : List S → Prop) : Out → Prop
  | .nx ρ => ∃ ρ', kill ρ dead = ρ' ∧ N ρ'
  | .ct ρ => ∃ ρ', kill ρ dead = ρ' ∧ N ρ'
  | .bk ρ => ∃ ρ', kill ρ dead = ρ' ∧ B ρ'
  | .rt d ρ => Q (.rt d ρ)
structure Nx (dead : List Nat) (Q : Out → Prop) (N B : List S → Prop) (o : Out) : Prop where
  out : Nx0 dead Q N B o
theorem forN_inv2 {w : Wk} {f : D → List S → Option Out} {QO : Out → Prop} (I : Nat → List S → Prop) (E : List S → Prop) (hs : ∀ i a, i < w.len → I i a → ∃ d o, w.at a i = some d ∧ f d a = some o ∧ ((∃ b, o = .nx b ∧ I (i + 1) b) ∨ (∃ b, o = .bk b ∧ E b) ∨ ∃ d b, o = .rt d b ∧ QO (.rt d b))) (hok : ∀ a, I w.len a → w.ok a = true) :
    ∀ (k : Nat) (a : List S), k ≤ w.len → I (w.len - k) a → ∃ o, forN w f k a = some o ∧ ((∃ b, o = .nx b ∧ (I w.len b ∨ E b)) ∨ ∃ d b, o = .rt d b ∧ QO (.rt d b))
  | 0, a, _, h => ⟨_, by simp only [forN, hok a h, if_true], .inl ⟨a, rfl, .inl h⟩⟩
  | k + 1, a, hk, h => by
    obtain ⟨d, o, h1, h2, h3⟩ := hs (w.len - (k + 1)) a (by omega) h
    have e : w.len - (k + 1) + 1 = w.len - k := by omega
    rw [e] at h3
    rcases h3 with ⟨b, rfl, h3⟩ | ⟨b, rfl, h3⟩ | ⟨d', b, rfl, h3⟩
    · obtain ⟨o, h4, h5⟩ := forN_inv2 I E hs hok k b (by omega) h3
      exact ⟨o, by simp only [forN, h1, h2, h4], h5⟩
    · exact ⟨_, by simp only [forN, h1, h2], .inl ⟨b, rfl, .inr h3⟩⟩
    · exact ⟨_, by simp only [forN, h1, h2], .inr ⟨d', b, rfl, h3⟩⟩
/-- the items of a loop's walk, at all places that the loop may come to -/
structure SrcF (tg : Tg) (body : List St) (kind : Nat) (rs : List R) (ρ1 : List S) (P : List S → Prop) (ds : List D) : Prop where
  out : ∃ w, srcK ρ1 kind rs = some w ∧ w.len = ds.length ∧ (!w.isLent && w.lives.all (fun r => !(tg.own ++ stsO body).contains r)) = true ∧ ∀ ρ, P ρ → w.ok ρ = true ∧ ∀ j < ds.length, w.at ρ j = ds[j]?
structure KFo (Γ : List CT) (tg : Tg) (kind : Nat) (body : List St) (dead : List Nat) (ss : List St) (rs : List R) (ρ : List S) (Q : Out → Prop) : Prop where
  out : ∃ (α : Type) (xs : List α) (enc : α → D) (I : List α → List S → Prop) (ρ0 : List S), kill ρ dead = ρ0 ∧ SrcF tg body kind rs ρ (fun ρ' => ∃ pre, I pre ρ') (xs.map enc) ∧ I [] ρ0 ∧
    (∀ pre x post ρ, xs = pre ++ x :: post → I pre ρ → ∃ ρ2, bind false tg (enc x) ρ = some ρ2 ∧ WS Γ body ρ2 (Nx dead Q (I (pre ++ [x])) fun ρ' => WS Γ ss ρ' Q)) ∧ ∀ ρ', I xs ρ' → WS Γ ss ρ' Q
theorem WS_for {tg : Tg} {kind : Nat} {src : List Ex} {body : List St} {dead : List Nat} (h : WL Γ false src ρ fun rs ρ1 => KFo Γ tg kind body dead ss rs ρ1 Q) : WS Γ (.for_ tg kind src body dead :: ss) ρ Q := by
  obtain ⟨rs, ρ1, h1, α, xs, enc, I, ρ0, h0, ⟨w, h2, h3, h4, h5⟩, h6, h7, h8⟩ := h
  subst h0
  rw [List.length_map] at h3
  obtain ⟨o, e1, e2⟩ : ∃ o, run Γ (.for_ tg kind src body dead) ρ = some o ∧ ((∃ b, o = .nx b ∧ ((∃ ρ', b = ρ' ∧ I xs ρ') ∨ WS Γ ss b Q)) ∨ ∃ d b, o = .rt d b ∧ Q (.rt d b)) := by
    simp only [PF.run, h1, h2, h4, if_true]
    generalize hf : (fun (d : D) (ρ : List S) => _ : D → List S → Option Out) = f
    obtain ⟨o, k1, k2⟩ := forN_inv2 (w := w) (f := f) (QO := Q) (fun i ρ => I (xs.take i) ρ) (fun b => WS Γ ss b Q) (fun i a hi hI => by
      have hi' : i < xs.length := by omega
      have hx : xs = xs.take i ++ xs[i] :: xs.drop (i + 1) := by rw [List.getElem_cons_drop, List.take_append_drop]
      obtain ⟨ρ2, g1, o, g2, g3⟩ := h7 _ _ _ a hx hI
      refine ⟨enc xs[i], killO dead o, by rw [(h5 a ⟨_, hI⟩).2 i (by simpa using hi'), List.getElem?_map, List.getElem?_eq_getElem hi']; rfl, by rw [← hf]; simp only [g1, g2, Option.map_some], ?_⟩
      have ht : xs.take i ++ [xs[i]] = xs.take (i + 1) := by rw [List.take_succ, List.getElem?_eq_getElem hi']; rfl
      rw [ht] at g3
      cases o with
      | nx ρ => obtain ⟨ρ', e, g⟩ := g3; exact .inl ⟨ρ', by rw [killO, e], g⟩
      | ct ρ => obtain ⟨ρ', e, g⟩ := g3; exact .inl ⟨ρ', by rw [killO, e], g⟩
      | bk ρ => obtain ⟨ρ', e, g⟩ := g3; exact .inr (.inl ⟨ρ', by rw [killO, e], g⟩)
      | rt d ρ => exact .inr (.inr ⟨d, ρ, rfl, g3.out⟩)) (fun a hI => (h5 a ⟨_, hI⟩).1) w.len (kill ρ1 dead) (Nat.le_refl _) (by rw [Nat.sub_self]; exact h6)
    refine ⟨o, k1, k2.imp (fun ⟨b, e, g⟩ => ⟨b, e, g.imp (fun g => ⟨b, rfl, ?_⟩) id⟩) id⟩
    have : xs.take w.len = xs := List.take_of_length_le (by omega)
    rw [this] at g; exact g
  rcases e2 with ⟨b, rfl, e2⟩ | ⟨d, b, rfl, e2⟩
  · refine WS.nx e1 ?_
    rcases e2 with ⟨ρ', rfl, e2⟩ | e2
    · exact h8 _ e2
    · exact e2
  · exact ⟨_, runs_rt e1, e2⟩
/-- the loop's sources -/
theorem SrcF.of {tg : Tg} {body : List St} {kind : Nat} {rs : List R} {P : List S → Prop} {ds : List D} {w : Wk} (h1 : srcK ρ1 kind rs = some w) (h2 : itemsW w = some ds) (h3 : w.isLent = false) (h4 : w.lives = []) : SrcF tg body kind rs ρ1 P ds :=
  ⟨w, h1, (itemsW_ok h2).1, by rw [h3, h4]; rfl, fun ρ _ => ⟨((itemsW_ok h2).2 ρ).1, fun j _ => ((itemsW_ok h2).2 ρ).2 j⟩⟩
/-- one source: what does not change, or a name's list that stands at each turn -/
inductive ScF (L : List Nat) (ρ1 : List S) (P : List S → Prop) : R → {α : Type} → List α → (α → T) → Prop
  | tup {α : Type} {t : T} {xs : List α} {f : α → T} : IsSeq t xs f → ScF L ρ1 P (.rv (.p t)) xs f
  | lst {α : Type} {ds : List D} {xs : List α} {f : α → T} : IsLst ds xs f → ScF L ρ1 P (.rv (.l ds)) xs f
  | live {α : Type} {i : Nat} {ds : List D} {xs : List α} {f : α → T} : look ρ1 i = .val (.l ds) → (∀ ρ0, P ρ0 → look ρ0 i = .val (.l ds)) → L.contains i = false → IsLst ds xs f → ScF L ρ1 P (.nm i) xs f
theorem ScF.sq {L : List Nat} {P : List S → Prop} {α : Type} {xs : List α} {f : α → T} (h : ScF L ρ1 P r xs f) : ∃ a, sqOf ρ1 r = some a ∧ a.len = xs.length ∧ a.lives.all (fun r => !L.contains r) = true ∧ ∀ ρ0, P ρ0 → a.ok ρ0 = true ∧ ∀ j < xs.length, a.at ρ0 j = (xs.map f)[j]? := by
  cases h with
  | tup h => unfold IsSeq at h; subst h; exact ⟨.fix (xs.map f), rfl, by simp [Sq.len], rfl, fun _ _ => ⟨rfl, fun j _ => rfl⟩⟩
  | lst h => exact ⟨.fix (xs.map f), by simp only [sqOf, h.pures, Option.map_some], by simp [Sq.len], rfl, fun _ _ => ⟨rfl, fun j _ => rfl⟩⟩
  | @live _ i ds _ _ h1 h0 hL h =>
    have hl : ds.length = xs.length := by rw [h, List.length_map]
    refine ⟨.live i ds.length, by simp only [sqOf, h1, h.pures, Option.map_some], hl, by simp [Sq.lives]; simpa using hL, fun ρ0 hP => ⟨by simp [Sq.ok, h0 ρ0 hP], fun j hj => ?_⟩⟩
    simp only [Sq.at, liveAt, h0 ρ0 hP, if_true]
    rw [h, List.getElem?_map, List.getElem?_map, List.getElem?_eq_getElem hj]
    rfl
section
variable {tg : Tg} {body : List St} {P : List S → Prop} {α β : Type} {xs : List α} {f : α → T} {ys : List β} {g : β → T} {r2 : R}
theorem srcF_one (h : ScF (tg.own ++ stsO body) ρ1 P r xs f) : SrcF tg body 0 [r] ρ1 P (xs.map fun a => D.p (f a)) := by
  obtain ⟨a, h1, h2, h3, h4⟩ := h.sq
  refine ⟨.one a, by simp only [srcK, h1], by rw [List.length_map]; exact h2, by simp only [Wk.isLent, Wk.lives, h3]; rfl, fun ρ0 hP => ⟨(h4 ρ0 hP).1, fun j hj => ?_⟩⟩
  rw [List.length_map] at hj
  simp only [Wk.at, (h4 ρ0 hP).2 j hj, List.getElem?_map, Option.map_map]
  rfl
theorem srcF_enum (h : ScF (tg.own ++ stsO body) ρ1 P r xs f) : SrcF tg body 3 [r] ρ1 P (xs.zipIdx.map fun a => D.p (.tup [.int (a.2 : Nat), f a.1])) := by
  obtain ⟨a, h1, h2, h3, h4⟩ := h.sq
  refine ⟨.enum a, by simp only [srcK, h1, Option.map_some], by simp; exact h2, by simp only [Wk.isLent, Wk.lives, h3]; rfl, fun ρ0 hP => ⟨(h4 ρ0 hP).1, fun j hj => ?_⟩⟩
  simp at hj
  simp only [Wk.at, (h4 ρ0 hP).2 j hj, List.getElem?_map, List.getElem?_zipIdx]
  rw [List.getElem?_eq_getElem hj]
  simp
theorem srcF_zip (h : ScF (tg.own ++ stsO body) ρ1 P r xs f) (h' : ScF (tg.own ++ stsO body) ρ1 P r2 ys g) : SrcF tg body 4 [r, r2] ρ1 P ((xs.zip ys).map fun a => D.p (.tup [f a.1, g a.2])) := by
  obtain ⟨a, h1, h2, h3, h4⟩ := h.sq
  obtain ⟨b, k1, k2, k3, k4⟩ := h'.sq
  refine ⟨.zip a b, by simp only [srcK, h1, k1], by simp [Wk.len, h2, k2], by simp only [Wk.isLent, Wk.lives, List.all_append, h3, k3]; rfl, fun ρ0 hP => ⟨by simp [Wk.ok, (h4 ρ0 hP).1, (k4 ρ0 hP).1], fun j hj => ?_⟩⟩
  have hj : j < xs.length ∧ j < ys.length := by simp at hj; omega
  simp only [Wk.at, (h4 ρ0 hP).2 j hj.1, (k4 ρ0 hP).2 j hj.2, List.getElem?_map, (h4 ρ0 hP).1, (k4 ρ0 hP).1, Bool.and_self, if_true]
  have hz : (xs.zip ys)[j]? = some (xs[j], ys[j]) := by rw [List.getElem?_eq_getElem (by simp; omega)]; simp
  rw [hz, List.getElem?_eq_getElem hj.1, List.getElem?_eq_getElem hj.2]
  rfl
theorem srcF_r1 {n : Nat} (h : valR ρ1 r = some (.p (.int n))) (hn : n < 2 ^ 61) : SrcF tg body 1 [r] ρ1 P ((List.range n).map fun (i : Nat) => .p (.int i)) := by
  have hr : rngOk 0 (n : Int) = true := by simp [rngOk]; omega
  have e : (fun (i : Nat) => D.p (.int (0 + (i : Int)))) = fun (i : Nat) => D.p (.int i) := by funext i; rw [Int.zero_add]
  refine SrcF.of (w := .rng 0 n) (by simp only [srcK, h, rngS, hr, if_true, Int.sub_zero, Int.toNat_natCast]) ?_ rfl rfl
  rw [itemsW, e]
theorem srcF_r2 {a b : Int} (h : valR ρ1 r = some (.p (.int a))) (h' : valR ρ1 r2 = some (.p (.int b))) (ha : -(2 ^ 61) < a ∧ a < 2 ^ 61) (hb : -(2 ^ 61) < b ∧ b < 2 ^ 61) : SrcF tg body 2 [r, r2] ρ1 P ((List.range (b - a).toNat).map fun (i : Nat) => .p (.int (a + i))) := by
  have hr : rngOk a b = true := by simp [rngOk]; omega
  exact SrcF.of (w := .rng a (b - a).toNat) (by simp only [srcK, h, h', rngS, hr, if_true]) rfl rfl rfl
end
theorem K_fo {α : Type} {tg : Tg} {kind : Nat} {body : List St} {dead : List Nat} {rs : List R} (I : List α → List S → Prop) {xs : List α} {enc : α → D} {ρ0 : List S} (h0 : kill ρ dead = ρ0) (h1 : SrcF tg body kind rs ρ (fun ρ' => ∃ pre, I pre ρ') (xs.map enc)) (h2 : I [] ρ0)
    (h3 : ∀ pre x post ρ, xs = pre ++ x :: post → I pre ρ → ∃ ρ2, bind false tg (enc x) ρ = some ρ2 ∧ WS Γ body ρ2 (Nx dead Q (I (pre ++ [x])) fun ρ' => WS Γ ss ρ' Q)) (h4 : ∀ ρ', I xs ρ' → WS Γ ss ρ' Q) : KFo Γ tg kind body dead ss rs ρ Q :=
  ⟨α, xs, enc, I, ρ0, h0, h1, h2, h3, h4⟩
/-- a while, by a state that falls -/
theorem whW_inv {c : List S → Option (Bool × List S)} {f : List S → Option Out} {QO : Out → Prop} (I : Nat → List S → Prop) (E : List S → Prop)
    (hs : ∀ m ρ, I m ρ → ∃ k ρ1, c ρ = some (k, ρ1) ∧ (k = false → E ρ1) ∧ (k = true → ∃ o, f ρ1 = some o ∧ ((∃ b m', o = .nx b ∧ m' < m ∧ I m' b) ∨ (∃ b, o = .bk b ∧ E b) ∨ ∃ d b, o = .rt d b ∧ QO (.rt d b)))) :
    ∀ (n m : Nat) (ρ : List S), m < n → I m ρ → ∃ o, whW c f n ρ = some o ∧ ((∃ b, o = .nx b ∧ E b) ∨ ∃ d b, o = .rt d b ∧ QO (.rt d b))
  | 0, _, _, h, _ => absurd h (Nat.not_lt_zero _)
  | n + 1, m, ρ, h, hI => by
    obtain ⟨k, ρ1, h1, h2, h3⟩ := hs m ρ hI
    cases k with
    | false => exact ⟨_, by simp only [whW, h1], .inl ⟨ρ1, rfl, h2 rfl⟩⟩
    | true =>
      obtain ⟨o, h4, h5⟩ := h3 rfl
      rcases h5 with ⟨b, m', rfl, h5, h6⟩ | ⟨b, rfl, h5⟩ | ⟨d, b, rfl, h5⟩
      · obtain ⟨o, h7, h8⟩ := whW_inv I E hs n m' b (by omega) h6
        exact ⟨o, by simp only [whW, h1, h4, h7], h8⟩
      · exact ⟨_, by simp only [whW, h1, h4], .inl ⟨b, rfl, h5⟩⟩
      · exact ⟨_, by simp only [whW, h1, h4], .inr ⟨d, b, rfl, h5⟩⟩
theorem WS_whl {c : Ex} {body : List St} {dead : List Nat} (I : Nat → List S → Prop) {ρ0 : List S} {m0 : Nat} (h0 : kill ρ dead = ρ0) (hm : m0 < FUEL) (h1 : I m0 ρ0)
    (hs : ∀ m ρ, I m ρ → W Γ false c ρ fun r ρ1 => KT r ρ1 fun k => (k = false → WS Γ ss ρ1 Q) ∧ (k = true → WS Γ body ρ1 (Nx dead Q (fun ρ' => ∃ m', m' < m ∧ I m' ρ') fun ρ' => WS Γ ss ρ' Q))) : WS Γ (.whl c body dead :: ss) ρ Q := by
  subst h0
  obtain ⟨o, e1, e2⟩ : ∃ o, run Γ (.whl c body dead) ρ = some o ∧ ((∃ b, o = .nx b ∧ WS Γ ss b Q) ∨ ∃ d b, o = .rt d b ∧ Q (.rt d b)) := by
    simp only [PF.run]
    refine whW_inv (QO := Q) I (fun b => WS Γ ss b Q) (fun m ρ hI => ?_) FUEL m0 _ hm h1
    obtain ⟨r, ρ1, k1, k, k2, k3, k4⟩ := hs m ρ hI
    refine ⟨k, ρ1, by rw [evTest_1, k1]; simp only [k2], k3, fun e => ?_⟩
    obtain ⟨o, k5, k6⟩ := k4 e
    refine ⟨killO dead o, by rw [k5]; rfl, ?_⟩
    cases o with
    | nx ρ => obtain ⟨ρ', e, m', g1, g2⟩ := k6; exact .inl ⟨ρ', m', by rw [killO, e], g1, g2⟩
    | ct ρ => obtain ⟨ρ', e, m', g1, g2⟩ := k6; exact .inl ⟨ρ', m', by rw [killO, e], g1, g2⟩
    | bk ρ => obtain ⟨ρ', e, g⟩ := k6; exact .inr (.inl ⟨ρ', by rw [killO, e], g⟩)
    | rt d ρ => exact .inr (.inr ⟨d, ρ, rfl, k6.out⟩)
  rcases e2 with ⟨b, rfl, e2⟩ | ⟨d, b, rfl, e2⟩
  · exact WS.nx e1 e2
  · exact ⟨_, runs_rt e1, e2⟩
theorem own_rv {q : Bool} : PF.own q ρ (.rv d) = some (d, ρ) := rfl
/-! ### defs -/
def Fin0 (st : List Nat) (ds : List D) (Q : D → List (Option D) → Prop) : Out → Prop
  | .rt d ρ => ∃ l, left st 0 ds ρ = l ∧ Q d l
  | .nx ρ => ∃ l, left st 0 ds ρ = l ∧ Q (.p .non) l
  | _ => False
structure Fin (st : List Nat) (ds : List D) (Q : D → List (Option D) → Prop) (o : Out) : Prop where
  out : Fin0 st ds Q o
theorem Sp_mk {n np : Nat} {body : List St} {ds : List D} {ρ0 : List S} {st : List Nat} {Q : D → List (Option D) → Prop} (h1 : ds.length = np) (h0 : startS n ds = ρ0) (h3 : stsO body = st) (h : WS Γ body ρ0 (Fin st ds Q)) : Sp (mk Γ n np body) ds Q := by
  subst h0 h3
  obtain ⟨o, h2, h4⟩ := h
  cases o with
  | rt d ρ => obtain ⟨l, e, h4⟩ := h4; exact ⟨d, l, mk_rt h1 rfl h2 rfl e, h4⟩
  | nx ρ => obtain ⟨l, e, h4⟩ := h4; exact ⟨_, l, mk_nx h1 rfl h2 rfl e, h4⟩
  | bk _ => exact h4.out.elim
  | ct _ => exact h4.out.elim
/-- pads with places that hold nothing -/
def padS : Nat → List S → List S
  | 0, l => l
  | n + 1, [] => .no :: padS n []
  | n + 1, s :: l => s :: padS n l
end
end PF

set_option Elab.async false
set_option linter.all false
set_option maxRecDepth 100000
/-! PF32: operators' answers -/
namespace PF
section
variable {a b c : Int} {k l : Bool} {d : D} {t u : T}
theorem big_of (h1 : -(2 ^ 64) < a) (h2 : a < 2 ^ 64) : big64 a = true := by simp [big64]; omega
theorem o_add : opD .add [.p (.int a), .p (.int b)] = some (.p (.int (a + b))) := rfl
theorem o_sub : opD .sub [.p (.int a), .p (.int b)] = some (.p (.int (a - b))) := rfl
theorem o_mul (h : big64 a = true ∨ big64 b = true) : opD .mul [.p (.int a), .p (.int b)] = some (.p (.int (a * b))) := by
  rcases h with h | h <;> simp [opD, mulD, h, I]
theorem o_mod (h : 0 < b) : opD .mod [.p (.int a), .p (.int b)] = some (.p (.int (a % b))) := by simp [opD, modD, h, I]
theorem o_fdiv (h : 0 < b) (h2 : b.natAbs.log2 < 9000) : opD .fdiv [.p (.int a), .p (.int b)] = some (.p (.int (a / b))) := by simp [opD, fdivD, h, h2, I]
theorem o_neg : opD .neg [.p (.int a)] = some (.p (.int (-a))) := rfl
theorem o_eqI : opD .eq [.p (.int a), .p (.int b)] = some (.p (.bl (decide (a = b)))) := by simp [opD, eqOp, eqD, okT, eqT, B, beq_dec]
theorem o_neI : opD .ne [.p (.int a), .p (.int b)] = some (.p (.bl (!decide (a = b)))) := by simp [opD, eqOp, eqD, okT, eqT, B, beq_dec]
theorem o_eqB : opD .eq [.p (.bl k), .p (.bl l)] = some (.p (.bl (k == l))) := by simp [opD, eqOp, eqD, okT, eqT, B]
theorem o_neB : opD .ne [.p (.bl k), .p (.bl l)] = some (.p (.bl (!(k == l)))) := by simp [opD, eqOp, eqD, okT, eqT, B]
theorem o_ltI : opD .lt [.p (.int a), .p (.int b)] = some (.p (.bl (decide (a < b)))) := rfl
theorem o_leI : opD .le [.p (.int a), .p (.int b)] = some (.p (.bl (decide (a ≤ b)))) := rfl
theorem o_gtI : opD .gt [.p (.int a), .p (.int b)] = some (.p (.bl (decide (b < a)))) := rfl
theorem o_geI : opD .ge [.p (.int a), .p (.int b)] = some (.p (.bl (decide (b ≤ a)))) := rfl
theorem o_isi {n s : String} (h : tyName d = some s) (h2 : isiB s n = some k) : opD (.isi n) [d] = some (.p (.bl k)) := by simp [opD, isiD, h, h2, B]
theorem o_isiT {n s : String} (h : tyName d = some s) (h2 : isiB s n = some true) : opD (.isi n) [d] = some (.p (.bl true)) := o_isi h h2
theorem o_isiF {n s : String} (h : tyName d = some s) (h2 : isiB s n = some false) : opD (.isi n) [d] = some (.p (.bl false)) := o_isi h h2
theorem o_isi2 {n m : String} (h : opD (.isi n) [d] = some (.p (.bl k))) (h2 : opD (.isi m) [d] = some (.p (.bl l))) : opD (.isi2 n m) [d] = some (.p (.bl (k || l))) := by
  have e1 : isiD n [d] = _ := h
  have e2 : isiD m [d] = _ := h2
  simp only [opD, isi2D, e1, e2, B]
theorem o_len_map {α : Type} {l : List α} {f : α → T} : opD .len [.p (.tup (l.map f))] = some (.p (.int l.length)) := by simp [opD, lenD, I]
theorem o_len_tup {l : List T} : opD .len [.p (.tup l)] = some (.p (.int l.length)) := rfl
theorem o_len_lstM {α : Type} {l : List α} {f : α → D} : opD .len [.l (l.map f)] = some (.p (.int l.length)) := by simp [opD, lenD, I]
theorem o_len_lst {l : List D} : opD .len [.l l] = some (.p (.int l.length)) := rfl
theorem o_all {α : Type} {l : List α} {f : α → Bool} : opD .all [.l (l.map fun a => .p (.bl (f a)))] = some (.p (.bl (l.all f))) := by
  simp only [opD, allD, items, pures_mapP l fun a => T.bl (f a), blsOf_map, Option.map_some, B]
  simp [List.all_map, Function.comp_def]
theorem o_any {α : Type} {l : List α} {f : α → Bool} : opD .any [.l (l.map fun a => .p (.bl (f a)))] = some (.p (.bl (l.any f))) := by
  simp only [opD, allD, items, pures_mapP l fun a => T.bl (f a), blsOf_map, Option.map_some, B]
  simp [List.any_map, Function.comp_def]
theorem o_sum {α : Type} {l : List α} {f : α → Int} : opD .sum [.l (l.map fun a => .p (.int (f a)))] = some (.p (.int (l.map f).sum)) := by
  simp only [opD, sumD, items, pures_mapP l fun a => T.int (f a), intsOf_map, Option.map_some, I]
theorem o_tuple_map {α : Type} {l : List α} {f : α → T} : opD .tuple [.l (l.map fun a => .p (f a))] = some (.p (.tup (l.map f))) := by
  simp only [opD, tupleD, seqT, items, pures_mapP, Option.map_some]
theorem o_tuple_lst {l : List T} : opD .tuple [.l (l.map .p)] = some (.p (.tup l)) := by
  simp only [opD, tupleD, seqT, items, pures_map, Option.map_some]
theorem o_list_map {α : Type} {l : List α} {f : α → T} : opD .list [.p (.tup (l.map f))] = some (.l (l.map fun a => .p (f a))) := by
  simp only [opD, listD, seqT, Option.map_some, L, List.map_map, Function.comp_def]
theorem o_isN (h : isP d = false) : opD .is [d, .p .non] = some (.p (.bl false)) := by cases d <;> first | rfl | cases h
theorem o_isnN (h : isP d = false) : opD .isn [d, .p .non] = some (.p (.bl true)) := by cases d <;> first | rfl | cases h
theorem o_isNN : opD .is [.p .non, .p .non] = some (.p (.bl true)) := rfl
theorem o_isnNN : opD .isn [.p .non, .p .non] = some (.p (.bl false)) := rfl
theorem o_isI : opD .is [.p (.int a), .p .non] = some (.p (.bl false)) := rfl
theorem o_isnI : opD .isn [.p (.int a), .p .non] = some (.p (.bl true)) := rfl
theorem o_isT {ts : List T} : opD .is [.p (.tup ts), .p .non] = some (.p (.bl false)) := rfl
theorem o_isnT {ts : List T} : opD .isn [.p (.tup ts), .p .non] = some (.p (.bl true)) := rfl
theorem o_abs : opD .abs [.p (.int a)] = some (.p (.int (a.natAbs : Nat))) := by
  simp only [opD, absD, I]
  congr 3
  split <;> omega
theorem o_int : opD .int [.p (.int a)] = some (.p (.int a)) := rfl
theorem o_max2 : opD .max2 [.p (.int a), .p (.int b)] = some (.p (.int (max a b))) := by
  simp only [opD, max2D, I]
  congr 3
  split <;> omega
theorem o_min2 : opD .min2 [.p (.int a), .p (.int b)] = some (.p (.int (min a b))) := by
  simp only [opD, min2D, I]
  congr 3
  split <;> omega
/-! items -/
theorem itemD_tup {ts : List T} {i : Nat} (h : ts[i]? = some t) : itemD [.p (.tup ts), .p (.int i)] = some (.p t) := by
  have hi : i < ts.length := (List.getElem?_eq_some_iff.mp h).1
  simp only [itemD, atI_nat hi, h, Option.map_some]
theorem itemD_map {α : Type} {l : List α} {f : α → T} {i : Nat} (h : i < l.length) : itemD [.p (.tup (l.map f)), .p (.int i)] = some (.p (f l[i])) :=
  itemD_tup (by rw [List.getElem?_map, List.getElem?_eq_getElem h]; rfl)
theorem itemD_lmap {α : Type} {l : List α} {f : α → T} {i : Nat} (h : i < l.length) : itemD [.l (l.map fun a => .p (f a)), .p (.int i)] = some (.p (f l[i])) := by
  simp only [itemD, atI_nat (xs := l.map fun a => D.p (f a)) (i := i) (by simpa using h), List.getElem?_map, List.getElem?_eq_getElem h, Option.map_some]
end
section
variable {a b c : Int} {k l : Bool} {d : D} {t u : T} {ρ : List S} {Q : R → List S → Prop}
theorem v_add  (hQ : Q (.rv ((.p (.int (a + b))))) ρ) : V2 .add (.p (.int a)) (.p (.int b)) ρ Q := ⟨_, o_add, hQ⟩
theorem v_sub  (hQ : Q (.rv ((.p (.int (a - b))))) ρ) : V2 .sub (.p (.int a)) (.p (.int b)) ρ Q := ⟨_, o_sub, hQ⟩
theorem v_mul (h : big64 a = true ∨ big64 b = true) (hQ : Q (.rv ((.p (.int (a * b))))) ρ) : V2 .mul (.p (.int a)) (.p (.int b)) ρ Q := ⟨_, o_mul h, hQ⟩
theorem v_mod (h : 0 < b) (hQ : Q (.rv ((.p (.int (a % b))))) ρ) : V2 .mod (.p (.int a)) (.p (.int b)) ρ Q := ⟨_, o_mod h, hQ⟩
theorem v_fdiv (h : 0 < b) (h2 : b.natAbs.log2 < 9000) (hQ : Q (.rv ((.p (.int (a / b))))) ρ) : V2 .fdiv (.p (.int a)) (.p (.int b)) ρ Q := ⟨_, o_fdiv h h2, hQ⟩
theorem v_neg  (hQ : Q (.rv ((.p (.int (-a))))) ρ) : V1 .neg (.p (.int a)) ρ Q := ⟨_, o_neg, hQ⟩
theorem v_eqI  (hQ : Q (.rv ((.p (.bl (decide (a = b)))))) ρ) : V2 .eq (.p (.int a)) (.p (.int b)) ρ Q := ⟨_, o_eqI, hQ⟩
theorem v_neI  (hQ : Q (.rv ((.p (.bl (!decide (a = b)))))) ρ) : V2 .ne (.p (.int a)) (.p (.int b)) ρ Q := ⟨_, o_neI, hQ⟩
theorem v_eqB  (hQ : Q (.rv ((.p (.bl (k == l))))) ρ) : V2 .eq (.p (.bl k)) (.p (.bl l)) ρ Q := ⟨_, o_eqB, hQ⟩
theorem v_neB  (hQ : Q (.rv ((.p (.bl (!(k == l)))))) ρ) : V2 .ne (.p (.bl k)) (.p (.bl l)) ρ Q := ⟨_, o_neB, hQ⟩
theorem v_ltI  (hQ : Q (.rv ((.p (.bl (decide (a < b)))))) ρ) : V2 .lt (.p (.int a)) (.p (.int b)) ρ Q := ⟨_, o_ltI, hQ⟩
theorem v_leI  (hQ : Q (.rv ((.p (.bl (decide (a ≤ b)))))) ρ) : V2 .le (.p (.int a)) (.p (.int b)) ρ Q := ⟨_, o_leI, hQ⟩
theorem v_gtI  (hQ : Q (.rv ((.p (.bl (decide (b < a)))))) ρ) : V2 .gt (.p (.int a)) (.p (.int b)) ρ Q := ⟨_, o_gtI, hQ⟩
theorem v_geI  (hQ : Q (.rv ((.p (.bl (decide (b ≤ a)))))) ρ) : V2 .ge (.p (.int a)) (.p (.int b)) ρ Q := ⟨_, o_geI, hQ⟩
theorem v_isi {n s : String} (h : tyName d = some s) (h2 : isiB s n = some k) (hQ : Q (.rv ((.p (.bl k)))) ρ) : V1 (.isi n) (d) ρ Q := ⟨_, o_isi h h2, hQ⟩
theorem v_isiT {n s : String} (h : tyName d = some s) (h2 : isiB s n = some true) (hQ : Q (.rv ((.p (.bl true)))) ρ) : V1 (.isi n) (d) ρ Q := ⟨_, o_isiT h h2, hQ⟩
theorem v_isiF {n s : String} (h : tyName d = some s) (h2 : isiB s n = some false) (hQ : Q (.rv ((.p (.bl false)))) ρ) : V1 (.isi n) (d) ρ Q := ⟨_, o_isiF h h2, hQ⟩
theorem v_len_map {α : Type} {l : List α} {f : α → T} (hQ : Q (.rv ((.p (.int l.length)))) ρ) : V1 .len (.p (.tup (l.map f))) ρ Q := ⟨_, o_len_map, hQ⟩
theorem v_len_tup {l : List T} (hQ : Q (.rv ((.p (.int l.length)))) ρ) : V1 .len (.p (.tup l)) ρ Q := ⟨_, o_len_tup, hQ⟩
theorem v_len_lstM {α : Type} {l : List α} {f : α → D} (hQ : Q (.rv ((.p (.int l.length)))) ρ) : V1 .len (.l (l.map f)) ρ Q := ⟨_, o_len_lstM, hQ⟩
theorem v_len_lst {l : List D} (hQ : Q (.rv ((.p (.int l.length)))) ρ) : V1 .len (.l l) ρ Q := ⟨_, o_len_lst, hQ⟩
theorem v_all {α : Type} {l : List α} {f : α → Bool} (hQ : Q (.rv ((.p (.bl (l.all f))))) ρ) : V1 .all (.l (l.map fun a => .p (.bl (f a)))) ρ Q := ⟨_, o_all, hQ⟩
theorem v_any {α : Type} {l : List α} {f : α → Bool} (hQ : Q (.rv ((.p (.bl (l.any f))))) ρ) : V1 .any (.l (l.map fun a => .p (.bl (f a)))) ρ Q := ⟨_, o_any, hQ⟩
theorem v_sum {α : Type} {l : List α} {f : α → Int} (hQ : Q (.rv ((.p (.int (l.map f).sum)))) ρ) : V1 .sum (.l (l.map fun a => .p (.int (f a)))) ρ Q := ⟨_, o_sum, hQ⟩
theorem v_tuple_map {α : Type} {l : List α} {f : α → T} (hQ : Q (.rv ((.p (.tup (l.map f))))) ρ) : V1 .tuple (.l (l.map fun a => .p (f a))) ρ Q := ⟨_, o_tuple_map, hQ⟩
theorem v_tuple_lst {l : List T} (hQ : Q (.rv ((.p (.tup l)))) ρ) : V1 .tuple (.l (l.map .p)) ρ Q := ⟨_, o_tuple_lst, hQ⟩
theorem v_list_map {α : Type} {l : List α} {f : α → T} (hQ : Q (.rv ((.l (l.map fun a => .p (f a))))) ρ) : V1 .list (.p (.tup (l.map f))) ρ Q := ⟨_, o_list_map, hQ⟩
theorem v_isN (h : isP d = false) (hQ : Q (.rv ((.p (.bl false)))) ρ) : V2 .is (d) (.p .non) ρ Q := ⟨_, o_isN h, hQ⟩
theorem v_isnN (h : isP d = false) (hQ : Q (.rv ((.p (.bl true)))) ρ) : V2 .isn (d) (.p .non) ρ Q := ⟨_, o_isnN h, hQ⟩
theorem v_isNN  (hQ : Q (.rv ((.p (.bl true)))) ρ) : V2 .is (.p .non) (.p .non) ρ Q := ⟨_, o_isNN, hQ⟩
theorem v_isnNN  (hQ : Q (.rv ((.p (.bl false)))) ρ) : V2 .isn (.p .non) (.p .non) ρ Q := ⟨_, o_isnNN, hQ⟩
theorem v_isI  (hQ : Q (.rv ((.p (.bl false)))) ρ) : V2 .is (.p (.int a)) (.p .non) ρ Q := ⟨_, o_isI, hQ⟩
theorem v_isnI  (hQ : Q (.rv ((.p (.bl true)))) ρ) : V2 .isn (.p (.int a)) (.p .non) ρ Q := ⟨_, o_isnI, hQ⟩
theorem v_isT {ts : List T} (hQ : Q (.rv ((.p (.bl false)))) ρ) : V2 .is (.p (.tup ts)) (.p .non) ρ Q := ⟨_, o_isT, hQ⟩
theorem v_isnT {ts : List T} (hQ : Q (.rv ((.p (.bl true)))) ρ) : V2 .isn (.p (.tup ts)) (.p .non) ρ Q := ⟨_, o_isnT, hQ⟩
theorem v_abs  (hQ : Q (.rv ((.p (.int (a.natAbs : Nat))))) ρ) : V1 .abs (.p (.int a)) ρ Q := ⟨_, o_abs, hQ⟩
theorem v_int  (hQ : Q (.rv ((.p (.int a)))) ρ) : V1 .int (.p (.int a)) ρ Q := ⟨_, o_int, hQ⟩
theorem v_max2  (hQ : Q (.rv ((.p (.int (max a b))))) ρ) : V2 .max2 (.p (.int a)) (.p (.int b)) ρ Q := ⟨_, o_max2, hQ⟩
theorem v_min2  (hQ : Q (.rv ((.p (.int (min a b))))) ρ) : V2 .min2 (.p (.int a)) (.p (.int b)) ρ Q := ⟨_, o_min2, hQ⟩
theorem v_itemD_tup {ts : List T} {i : Nat} (h : ts[i]? = some t) (hQ : Q (.rv ((.p t))) ρ) : VI (.p (.tup ts)) (.p (.int i)) ρ Q := ⟨_, itemD_tup h, hQ⟩
theorem v_itemD_map {α : Type} {l : List α} {f : α → T} {i : Nat} (h : i < l.length) (hQ : Q (.rv ((.p (f l[i])))) ρ) : VI (.p (.tup (l.map f))) (.p (.int i)) ρ Q := ⟨_, itemD_map h, hQ⟩
theorem v_itemD_lmap {α : Type} {l : List α} {f : α → T} {i : Nat} (h : i < l.length) (hQ : Q (.rv ((.p (f l[i])))) ρ) : VI (.l (l.map fun a => .p (f a))) (.p (.int i)) ρ Q := ⟨_, itemD_lmap h, hQ⟩
theorem v_isi2 {n m : String} (h : opD (.isi n) [d] = some (.p (.bl k))) (h2 : opD (.isi m) [d] = some (.p (.bl l))) (hQ : Q (.rv (.p (.bl (k || l)))) ρ) : V1 (.isi2 n m) d ρ Q := ⟨_, o_isi2 h h2, hQ⟩
end
end PF

set_option Elab.async false
set_option linter.all false
set_option maxRecDepth 100000
/-! PF33: tables, rows, lots as data -/
namespace PF
def rowT (n : Nat) (f : Nat → Int) : T := .tup ((List.range n).map fun j => .int (f j))
def tabT (n : Nat) (f : Nat → Nat → Int) : T := .tup ((List.range n).map fun i => rowT n (f i))
def natT (xs : List Nat) : T := .tup (xs.map fun (k : Nat) => .int (k : Int))
def intT (xs : List Int) : T := .tup (xs.map T.int)
theorem item_tab {n i : Nat} {f : Nat → Nat → Int} (h : i < n) : itemD [.p (tabT n f), .p (.int (i : Int))] = some (.p (rowT n (f i))) := by
  simp [itemD, tabT, atI_nat, h]
theorem item_row {n i : Nat} {f : Nat → Int} (h : i < n) : itemD [.p (rowT n f), .p (.int (i : Int))] = some (.p (.int (f i))) := by
  simp [itemD, rowT, atI_nat, h]
theorem item_nat {xs : List Nat} {k : Nat} (h : k < xs.length) : itemD [.p (natT xs), .p (.int (k : Int))] = some (.p (.int (xs[k] : Nat))) := by
  simp [itemD, natT, atI_nat, h]
theorem o_len_tab {n : Nat} {f : Nat → Nat → Int} : opD .len [.p (tabT n f)] = some (.p (.int n)) := by simp [opD, lenD, tabT, I]
theorem o_len_row {n : Nat} {f : Nat → Int} : opD .len [.p (rowT n f)] = some (.p (.int n)) := by simp [opD, lenD, rowT, I]
theorem o_len_nat {xs : List Nat} : opD .len [.p (natT xs)] = some (.p (.int xs.length)) := by simp [opD, lenD, natT, I]
theorem isSeq_tab {n : Nat} {f : Nat → Nat → Int} : IsSeq (tabT n f) (List.range n) fun i => rowT n (f i) := rfl
theorem isSeq_row {n : Nat} {f : Nat → Int} : IsSeq (rowT n f) (List.range n) fun j => .int (f j) := rfl
theorem isSeq_nat {xs : List Nat} : IsSeq (natT xs) xs fun k => .int (k : Int) := rfl
theorem isSeq_int {xs : List Int} : IsSeq (intT xs) xs T.int := rfl
section
variable {ρ : List S} {Q : R → List S → Prop}
theorem v_item_tab {n i : Nat} {f : Nat → Nat → Int} (h : i < n) (hQ : Q (.rv ((.p (rowT n (f i))))) ρ) : VI (.p (tabT n f)) (.p (.int (i : Int))) ρ Q := ⟨_, item_tab h, hQ⟩
theorem v_item_row {n i : Nat} {f : Nat → Int} (h : i < n) (hQ : Q (.rv ((.p (.int (f i))))) ρ) : VI (.p (rowT n f)) (.p (.int (i : Int))) ρ Q := ⟨_, item_row h, hQ⟩
theorem v_item_nat {xs : List Nat} {k : Nat} (h : k < xs.length) (hQ : Q (.rv ((.p (.int (xs[k] : Nat))))) ρ) : VI (.p (natT xs)) (.p (.int (k : Int))) ρ Q := ⟨_, item_nat h, hQ⟩
theorem v_len_tab {n : Nat} {f : Nat → Nat → Int} (hQ : Q (.rv ((.p (.int n)))) ρ) : V1 .len (.p (tabT n f)) ρ Q := ⟨_, o_len_tab, hQ⟩
theorem v_len_row {n : Nat} {f : Nat → Int} (hQ : Q (.rv ((.p (.int n)))) ρ) : V1 .len (.p (rowT n f)) ρ Q := ⟨_, o_len_row, hQ⟩
theorem v_len_nat {xs : List Nat} (hQ : Q (.rv ((.p (.int xs.length)))) ρ) : V1 .len (.p (natT xs)) ρ Q := ⟨_, o_len_nat, hQ⟩
end
section
variable {ρ : List S} {Q : R → List S → Prop} {a b c : T} {ts : List T} {x y z : D} {ds : List D}
theorem v_it0 (hQ : Q (.rv (.p a)) ρ) : VI (.p (.tup (a :: ts))) (.p (.int 0)) ρ Q := ⟨_, itemD_tup (i := 0) rfl, hQ⟩
theorem v_it1 (hQ : Q (.rv (.p b)) ρ) : VI (.p (.tup (a :: b :: ts))) (.p (.int 1)) ρ Q := ⟨_, itemD_tup (i := 1) rfl, hQ⟩
theorem v_it2 (hQ : Q (.rv (.p c)) ρ) : VI (.p (.tup (a :: b :: c :: ts))) (.p (.int 2)) ρ Q := ⟨_, itemD_tup (i := 2) rfl, hQ⟩
theorem v_itm {α : Type} {l : List α} {f : α → T} {i : Nat} (h : i < l.length) (hQ : Q (.rv (.p (f l[i]))) ρ) : VI (.p (.tup (l.map f))) (.p (.int i)) ρ Q := ⟨_, itemD_map h, hQ⟩
theorem v_itl {α : Type} {l : List α} {f : α → T} {i : Nat} (h : i < l.length) (hQ : Q (.rv (.p (f l[i]))) ρ) : VI (.l (l.map fun a => .p (f a))) (.p (.int i)) ρ Q := ⟨_, itemD_lmap h, hQ⟩
end
mutual
theorem eqT_refl : ∀ t : T, eqT t t = true
  | .non => by simp [eqT]
  | .bl b => by simp [eqT]
  | .int i => by simp [eqT]
  | .str x => by simp [eqT]
  | .tup xs => by simp only [eqT]; exact eqTs_refl xs
theorem eqTs_refl : ∀ xs : List T, eqTs xs xs = true
  | [] => by simp [eqTs]
  | x :: xs => by simp only [eqTs, eqT_refl x, eqTs_refl xs, Bool.and_self]
end
theorem v_eqS {t : T} {ρ : List S} {Q : R → List S → Prop} (h : okT 32 t = true) (hQ : Q (.rv (.p (.bl true))) ρ) : V2 .eq (.p t) (.p t) ρ Q := ⟨_, by simp [opD, eqOp, eqD, h, eqT_refl, B], hQ⟩
theorem v_neS {t : T} {ρ : List S} {Q : R → List S → Prop} (h : okT 32 t = true) (hQ : Q (.rv (.p (.bl false))) ρ) : V2 .ne (.p t) (.p t) ρ Q := ⟨_, by simp [opD, eqOp, eqD, h, eqT_refl, B], hQ⟩
theorem ok_tab {n : Nat} {f : Nat → Nat → Int} : okT 32 (tabT n f) = true := by simp [okT, tabT, rowT]
theorem ok_row {n : Nat} {f : Nat → Int} : okT 32 (rowT n f) = true := by simp [okT, rowT]
theorem ok_nat {xs : List Nat} : okT 32 (natT xs) = true := by simp [okT, natT]
theorem any_nat (row : List Nat) (x : Nat) : ((row.map fun (k : Nat) => T.int (k : Int)).any fun z => eqT z (.int (x : Int))) = decide (x ∈ row) := by
  induction row with
  | nil => rfl
  | cons a r ih =>
    rw [List.map_cons, List.any_cons, ih]
    simp only [eqT]
    by_cases h : a = x
    · subst h; simp
    · have : ((a : Int) == (x : Int)) = false := by simp; omega
      rw [this]
      simp [List.mem_cons, Ne.symm h]
theorem v_nin_nat {x : Nat} {row : List Nat} {ρ : List S} {Q : R → List S → Prop} (hQ : Q (.rv (.p (.bl (!decide (x ∈ row))))) ρ) : V2 .nin (.p (.int (x : Int))) (.p (natT row)) ρ Q := ⟨_, by simp only [opD, inD, natT, seqT, okT, any_nat, B, if_true], hQ⟩
theorem v_in_nat {x : Nat} {row : List Nat} {ρ : List S} {Q : R → List S → Prop} (hQ : Q (.rv (.p (.bl (decide (x ∈ row))))) ρ) : V2 .inn (.p (.int (x : Int))) (.p (natT row)) ρ Q := ⟨_, by simp only [opD, inD, natT, seqT, okT, any_nat, B, if_true]; rfl, hQ⟩
theorem v_cat_nat {xs ys : List Nat} {ρ : List S} {Q : R → List S → Prop} (h : xs.length + ys.length ≤ LIM) (hQ : Q (.rv (.p (natT (xs ++ ys)))) ρ) : V2 .add (.p (natT xs)) (.p (natT ys)) ρ Q := ⟨_, by simp [opD, addD, natT, h], hQ⟩
theorem v_cat1_nat {xs : List Nat} {y : Nat} {ρ : List S} {Q : R → List S → Prop} (h : xs.length + 1 ≤ LIM) (hQ : Q (.rv (.p (natT (xs ++ [y])))) ρ) : V2 .add (.p (natT xs)) (.p (.tup [.int (y : Int)])) ρ Q := ⟨_, by simp [opD, addD, natT, h], hQ⟩
def fracT (p : Int × Int) : T := .tup [.int p.1, .int p.2]
theorem v_fr0 {p : Int × Int} {ρ : List S} {Q : R → List S → Prop} (hQ : Q (.rv (.p (.int p.1))) ρ) : VI (.p (fracT p)) (.p (.int 0)) ρ Q := v_it0 hQ
theorem v_fr1 {p : Int × Int} {ρ : List S} {Q : R → List S → Prop} (hQ : Q (.rv (.p (.int p.2))) ρ) : VI (.p (fracT p)) (.p (.int 1)) ρ Q := v_it1 hQ
theorem forall_range {n : Nat} {P : Nat → Prop} (h : ∀ i, i < n → P i) : ∀ a, a ∈ List.range n → P a := fun a ha => h a (List.mem_range.mp ha)
section
variable {ρ1 ρ0 : List S} {r r2 : R} {n : Nat} {f g : Nat → T}
theorem zipIdx_range : ∀ (n : Nat), (List.range n).zipIdx = (List.range n).map fun i => (i, i) := fun n => by
  refine List.ext_getElem (by simp) fun i h1 h2 => by simp
theorem zip_range : ∀ (n : Nat), (List.range n).zip (List.range n) = (List.range n).map fun i => (i, i) := fun n => by
  refine List.ext_getElem (by simp) fun i h1 h2 => by simp
theorem src_enumR (h : Sc ρ1 ρ0 r (List.range n) f) : Src 3 [r] ρ1 ρ0 false ((List.range n).map fun i => D.p (.tup [.int (i : Nat), f i])) := by
  have := src_enum h
  rw [zipIdx_range, List.map_map] at this
  exact this
theorem src_zipR (h : Sc ρ1 ρ0 r (List.range n) f) (h' : Sc ρ1 ρ0 r2 (List.range n) g) : Src 4 [r, r2] ρ1 ρ0 false ((List.range n).map fun i => D.p (.tup [f i, g i])) := by
  have := src_zip h h'
  rw [zip_range, List.map_map] at this
  exact this
variable {tg : Tg} {body : List St} {P : List S → Prop}
theorem srcF_enumR (h : ScF (tg.own ++ stsO body) ρ1 P r (List.range n) f) : SrcF tg body 3 [r] ρ1 P ((List.range n).map fun i => D.p (.tup [.int (i : Nat), f i])) := by
  have := srcF_enum h
  rw [zipIdx_range, List.map_map] at this
  exact this
theorem srcF_zipR (h : ScF (tg.own ++ stsO body) ρ1 P r (List.range n) f) (h' : ScF (tg.own ++ stsO body) ρ1 P r2 (List.range n) g) : SrcF tg body 4 [r, r2] ρ1 P ((List.range n).map fun i => D.p (.tup [f i, g i])) := by
  have := srcF_zip h h'
  rw [zip_range, List.map_map] at this
  exact this
/-- a loop over range(n), by what stands at turn i -/
theorem K_foR {Γ : List CT} {kind : Nat} {dead : List Nat} {rs : List R} {ρ : List S} {Q : Out → Prop} {ss : List St} (I : Nat → List S → Prop) {enc : Nat → D} (h0 : kill ρ dead = ρ0) (h1 : SrcF tg body kind rs ρ (fun ρ' => ∃ i, I i ρ') ((List.range n).map enc)) (h2 : I 0 ρ0)
    (h3 : ∀ i ρ, i < n → I i ρ → ∃ ρ2, bind false tg (enc i) ρ = some ρ2 ∧ WS Γ body ρ2 (Nx dead Q (I (i + 1)) fun ρ' => WS Γ ss ρ' Q)) (h4 : ∀ ρ', I n ρ' → WS Γ ss ρ' Q) : KFo Γ tg kind body dead ss rs ρ Q := by
  refine K_fo (xs := List.range n) (enc := enc) (fun pre ρ' => I pre.length ρ') h0 ?_ h2 (fun pre x post ρ e hI => ?_) fun ρ' hI => h4 ρ' (by simpa using hI)
  · obtain ⟨w, k1, k2, k3, k4⟩ := h1
    exact ⟨w, k1, k2, k3, fun ρ' ⟨pre, hp⟩ => k4 ρ' ⟨_, hp⟩⟩
  · have hl : pre.length < n := by have := congrArg List.length e; simp at this; omega
    have hx : x = pre.length := by
      have h5 : (List.range n)[pre.length]? = some x := by rw [e]; simp
      rw [List.getElem?_range hl] at h5
      exact (Option.some.inj h5).symm
    subst hx
    have := h3 pre.length ρ hl hI
    rw [List.length_append, List.length_singleton]
    exact this
/-- nothing changes -/
theorem K_foS {Γ : List CT} {kind : Nat} {dead : List Nat} {rs : List R} {ρ : List S} {Q : Out → Prop} {ss : List St} {α : Type} {xs : List α} {enc : α → D} (h0 : kill ρ dead = ρ0) (h1 : SrcF tg body kind rs ρ (fun ρ' => ρ' = ρ0) (xs.map enc))
    (h3 : ∀ a, a ∈ xs → ∃ ρ2, bind false tg (enc a) ρ0 = some ρ2 ∧ WS Γ body ρ2 (Nx dead Q (fun ρ' => ρ' = ρ0) fun ρ' => WS Γ ss ρ' Q)) (h4 : WS Γ ss ρ0 Q) : KFo Γ tg kind body dead ss rs ρ Q := by
  refine K_fo (xs := xs) (enc := enc) (fun _ ρ' => ρ' = ρ0) h0 ?_ rfl (fun pre x post ρ e hI => ?_) fun ρ' hI => by rw [hI]; exact h4
  · obtain ⟨w, k1, k2, k3, k4⟩ := h1
    exact ⟨w, k1, k2, k3, fun ρ' ⟨pre, hp⟩ => k4 ρ' hp⟩
  · subst hI; exact h3 x (by rw [e]; simp)
theorem K_b {tg : Tg} {d : D} {ρ ρ2 : List S} {F : List S → Prop} (h : bind false tg d ρ = some ρ2) (k : F ρ2) : ∃ ρ2, bind false tg d ρ = some ρ2 ∧ F ρ2 := ⟨_, h, k⟩
theorem K_nx {dead : List Nat} {Q : Out → Prop} {N B : List S → Prop} {ρ ρ' : List S} (h : kill ρ dead = ρ') (k : N ρ') : Nx dead Q N B (.nx ρ) := ⟨_, h, k⟩
theorem K_ct {dead : List Nat} {Q : Out → Prop} {N B : List S → Prop} {ρ ρ' : List S} (h : kill ρ dead = ρ') (k : N ρ') : Nx dead Q N B (.ct ρ) := ⟨_, h, k⟩
theorem K_bk {dead : List Nat} {Q : Out → Prop} {N B : List S → Prop} {ρ ρ' : List S} (h : kill ρ dead = ρ') (k : B ρ') : Nx dead Q N B (.bk ρ) := ⟨_, h, k⟩
theorem K_rt {dead : List Nat} {Q : Out → Prop} {N B : List S → Prop} {ρ : List S} {d : D} (k : Q (.rt d ρ)) : Nx dead Q N B (.rt d ρ) := ⟨k⟩
end
theorem K_f {c : CT} {q : Bool} {rs : List R} {ds : List D} {ρ ρ2 : List S} {Q : R → List S → Prop} {d : D} {os : List (Option D)} (h : c ds = some (d, os)) (h2 : back ρ rs os = some ρ2) (f : Q (.rv d) ρ2) : KF c q rs ds ρ Q := ⟨d, os, h, ρ2, h2, f⟩
theorem K_fs {c : CT} {q : Bool} {rs : List R} {ds : List D} {ρ : List S} {Q : R → List S → Prop} (h : Sp c ds fun d os => ∃ ρ2, back ρ rs os = some ρ2 ∧ Q (.rv d) ρ2) : KF c q rs ds ρ Q := ⟨h⟩
theorem WS_appC {Γ : List CT} {s : St} {as ss : List St} {ρ : List S} {Q : Out → Prop} (h : WS Γ (s :: (as ++ ss)) ρ Q) : WS Γ ((s :: as) ++ ss) ρ Q := h
theorem WS_appN {Γ : List CT} {ss : List St} {ρ : List S} {Q : Out → Prop} (h : WS Γ ss ρ Q) : WS Γ ([] ++ ss) ρ Q := h
theorem K_fr {st : List Nat} {ds : List D} {Q : D → List (Option D) → Prop} {ρ : List S} {d : D} {l : List (Option D)} (h : left st 0 ds ρ = l) (f : Q d l) : Fin st ds Q (.rt d ρ) := ⟨l, h, f⟩
theorem K_fn {st : List Nat} {ds : List D} {Q : D → List (Option D) → Prop} {ρ : List S} {l : List (Option D)} (h : left st 0 ds ρ = l) (f : Q (.p .non) l) : Fin st ds Q (.nx ρ) := ⟨l, h, f⟩
/-- a table that the program takes -/
structure Tab (n : Nat) (f : Nat → Nat → Int) : Prop where
  n1 : 1 ≤ n
  n7 : n ≤ 7
  b0 : ∀ i j, i < n → j < n → 0 ≤ f i j ∧ f i j ≤ 1000
  dz : ∀ i j, i < n → j < n → (f i j = 0 ↔ i = j)
  sy : ∀ i j, i < n → j < n → f i j = f j i
theorem lim7 {n : Nat} (h : n ≤ 7) : n ≤ LIM := Nat.le_trans h (Nat.le_of_ble_eq_true rfl)
end PF

set_option Elab.async false
set_option linter.all false
set_option maxRecDepth 100000
/-! PF34: rows, orders of places, squares of numbers -/
namespace PF
def ext (m : Nat) (c : List Nat → Nat → Bool) (row : List Nat) : List (List Nat) := ((List.range m).filter (c row)).map fun g => row ++ [g]
def lvl (m : Nat) (c : Nat → List Nat → Nat → Bool) : Nat → List (List Nat)
  | 0 => [[]]
  | p + 1 => (lvl m c p).flatMap (ext m (c p))
theorem lvl_len {m : Nat} {c : Nat → List Nat → Nat → Bool} : ∀ (p : Nat), ∀ row ∈ lvl m c p, row.length = p ∧ ∀ x ∈ row, x < m
  | 0, row, h => by simp [lvl] at h; subst h; simp
  | p + 1, row, h => by
    simp only [lvl, List.mem_flatMap, ext, List.mem_map, List.mem_filter, List.mem_range] at h
    obtain ⟨r0, h1, x, ⟨h2, h3⟩, rfl⟩ := h
    obtain ⟨h4, h5⟩ := lvl_len p r0 h1
    refine ⟨by simp [h4], fun y hy => ?_⟩
    rcases List.mem_append.mp hy with hy | hy
    · exact h5 y hy
    · simp at hy; omega
theorem lvl_le {m : Nat} {c : Nat → List Nat → Nat → Bool} : ∀ p : Nat, (lvl m c p).length ≤ m ^ p
  | 0 => by simp [lvl]
  | p + 1 => by
    have ih := lvl_le (m := m) (c := c) p
    have h : ∀ F : List (List Nat), (F.flatMap (ext m (c p))).length ≤ F.length * m := fun F => by
      induction F with
      | nil => simp
      | cons r F ihF =>
        rw [List.flatMap_cons, List.length_append, List.length_cons, Nat.add_mul]
        have : (ext m (c p) r).length ≤ m := by
          unfold ext
          rw [List.length_map]
          have := List.length_filter_le (c p r) (List.range m)
          simpa using this
        omega
    simp only [lvl]
    calc _ ≤ (lvl m c p).length * m := h _
      _ ≤ m ^ p * m := Nat.mul_le_mul_right _ ih
      _ = m ^ (p + 1) := by rw [Nat.pow_succ]
theorem lvl_lim {m n p : Nat} {c : Nat → List Nat → Nat → Bool} (hm : m ≤ 7) (hn : n ≤ 7) (hp : p ≤ n) : (lvl m c p).length + m < LIM := by
  have h1 := lvl_le (m := m) (c := c) p
  have h2 : m ^ p ≤ 7 ^ p := Nat.pow_le_pow_left hm p
  have h3 : 7 ^ p ≤ 7 ^ 7 := Nat.pow_le_pow_right (by decide) (by omega)
  have h4 : (7 : Nat) ^ 7 = 823543 := by decide
  have h5 : LIM = 16777216 := rfl
  omega
theorem cut1 {α : Type} (xs : List α) : PF.cutT xs (some 1) none = xs.drop 1 := by
  cases xs with
  | nil => simp [PF.cutT]
  | cons x r => simp [PF.cutT, HT.sIx]
theorem nodup_len : ∀ {n : Nat} {xs : List Nat}, xs.Nodup → (∀ x ∈ xs, x < n) → xs.length ≤ n
  | 0, [], _, _ => Nat.le_refl 0
  | 0, x :: _, _, h => absurd (h x List.mem_cons_self) (by omega)
  | n + 1, xs, hn, h => by
    by_cases hm : n ∈ xs
    · have := nodup_len (n := n) (hn.erase n) fun x hx => by
        have h1 := h x (List.mem_of_mem_erase hx)
        have h2 : x ≠ n := (List.Nodup.mem_erase_iff hn).mp hx |>.1
        omega
      rw [List.length_erase_of_mem hm] at this
      omega
    · have := nodup_len (n := n) hn fun x hx => by
        have h1 := h x hx
        have h2 : x ≠ n := fun e => hm (e ▸ hx)
        omega
      omega
structure Pm (n : Nat) (xs : List Nat) : Prop where
  len : xs.length = n
  nd : xs.Nodup
  lt : ∀ x ∈ xs, x < n
theorem Pm.mem {n : Nat} {xs : List Nat} (p : Pm n xs) {k : Nat} (h : k < n) : k ∈ xs := by
  by_cases hm : k ∈ xs
  · exact hm
  · have := nodup_len (n := n) (List.nodup_cons.mpr ⟨hm, p.nd⟩) fun x hx => by
      rcases List.mem_cons.mp hx with e | e
      · omega
      · exact p.lt x e
    have := p.len
    simp at *
    omega
theorem Pm.perm {n : Nat} {xs : List Nat} (p : Pm n xs) : xs.Perm (List.range n) := by
  rw [List.perm_iff_count]
  intro a
  have h1 : ∀ l : List Nat, l.Nodup → List.count a l = if a ∈ l then 1 else 0 := fun l hl => by
    split
    · rename_i h
      have := List.nodup_iff_count.mp hl a
      have := List.count_pos_iff.mpr h
      omega
    · exact List.count_eq_zero.mpr ‹_›
  rw [h1 xs p.nd, h1 _ List.nodup_range]
  simp only [List.mem_range]
  by_cases h : a < n
  · rw [if_pos (p.mem h), if_pos h]
  · rw [if_neg fun z => h (p.lt a z), if_neg h]
structure Lot (n : Nat) (xs : List Nat) : Prop where
  up : xs.Pairwise (· < ·)
  lt : ∀ x ∈ xs, x < n
  ne : xs ≠ []
theorem lvl_nodup {m : Nat} {c : Nat → List Nat → Nat → Bool} (hc : ∀ p row x, c p row x = true → x ∉ row) : ∀ p, ∀ row ∈ lvl m c p, row.Nodup
  | 0, row, h => by simp [lvl] at h; subst h; exact .nil
  | p + 1, row, h => by
    simp only [lvl, List.mem_flatMap, ext, List.mem_map, List.mem_filter, List.mem_range] at h
    obtain ⟨r0, h1, x, ⟨h2, h3⟩, rfl⟩ := h
    have := lvl_nodup hc p r0 h1
    rw [List.nodup_append]
    refine ⟨this, by simp, fun a ha b hb e => ?_⟩
    simp at hb
    subst hb e
    exact hc p r0 _ h3 ha
theorem sub_len : ∀ (n : Nat) (row : List Nat), (∀ x, x < n → x ∈ row) → n ≤ row.length
  | 0, _, _ => Nat.zero_le _
  | n + 1, row, h => by
    have hm := h n (by omega)
    have ih := sub_len n (row.erase n) fun x hx => (List.mem_erase_of_ne (by omega)).mpr (h x (by omega))
    rw [List.length_erase_of_mem hm] at ih
    have := List.length_pos_of_mem hm
    omega
theorem lvl_some (c : Nat → List Nat → Nat → Bool) (h : ∀ p, p < n → ∀ row ∈ lvl n c p, ∃ x, x < n ∧ c p row x = true) : ∀ p, p ≤ n → 0 < (lvl n c p).length
  | 0, _ => by simp [lvl]
  | p + 1, hp => by
    have ih := lvl_some c h p (by omega)
    obtain ⟨row, hr⟩ := List.exists_mem_of_length_pos ih
    obtain ⟨x, hx, hc⟩ := h p (by omega) row hr
    refine List.length_pos_of_mem (a := row ++ [x]) ?_
    simp only [lvl, List.mem_flatMap, ext, List.mem_map, List.mem_filter, List.mem_range]
    exact ⟨row, hr, x, ⟨hx, hc⟩, rfl⟩
theorem idxT_nat {k : Nat} : ∀ {xs : List Nat}, k ∈ xs → idxT (.int (k : Int)) (xs.map fun (k : Nat) => .int (k : Int)) = some (xs.idxOf k)
  | x :: r, h => by
    rw [List.map_cons, idxT, List.idxOf_cons]
    by_cases e : x = k
    · subst e; simp [eqT]
    · have h2 : eqT (.int (x : Int)) (.int (k : Int)) = false := by simp [eqT]; omega
      have h3 : (x == k) = false := by simpa using e
      rw [h2, h3, idxT_nat ((List.mem_cons.mp h).resolve_left fun z => e z.symm)]
      rfl
def at0 (xs : List Nat) (k : Nat) : Nat := xs[k]?.getD 0
def rowL (n : Nat) (g : Nat → Int) : D := .l ((List.range n).map fun j => .p (.int (g j)))
def matD (n : Nat) (g : Nat → Nat → Int) : D := .l ((List.range n).map fun i => rowL n (g i))
def upd2 (g : Nat → Nat → Int) (i j : Nat) (v : Int) (a b : Nat) : Int := if a = i ∧ b = j then v else g a b
theorem set_range {α : Type} (n : Nat) (F : Nat → α) (m : Nat) (y : α) : ((List.range n).map F).set m y = (List.range n).map fun k => if k = m then y else F k := by
  refine List.ext_getElem (by simp) fun i h1 h2 => ?_
  simp only [List.getElem_set, List.getElem_map, List.getElem_range]
  by_cases h : m = i
  · subst h; simp
  · rw [if_neg h, if_neg fun z => h z.symm]
structure RawI (top : Int) (i j : Nat) (g : Nat → Nat → Int) : Prop where
  sy : ∀ a b, g a b = g b a
  dz : ∀ a, g a a = 0
  ok : ∀ a b, a < b → (b < i ∨ (b = i ∧ a < j)) → 1 ≤ g a b ∧ g a b ≤ top
theorem RawI.step {top : Int} {i j : Nat} {g : Nat → Nat → Int} {v : Int} (h : RawI top i j g) (hj : j < i) (hv : 1 ≤ v ∧ v ≤ top) : RawI top i (j + 1) (upd2 (upd2 g i j v) j i v) := by
  refine ⟨fun a b => ?_, fun a => ?_, fun a b hab hd => ?_⟩
  · have := h.sy a b
    unfold upd2
    repeat' split
    all_goals first | rfl | omega
  · have := h.dz a
    unfold upd2
    repeat' split
    all_goals first | rfl | omega
  · unfold upd2
    by_cases e : a = j ∧ b = i
    · rw [if_pos e]; exact hv
    · rw [if_neg e, if_neg (by omega)]
      exact h.ok a b hab (by omega)
theorem rep_row (n : Nat) : (List.replicate n [T.int 0]).flatten = (List.range n).map fun _ => T.int 0 := by
  rw [List.map_const', List.length_range]
  induction n with
  | zero => rfl
  | succ n ih => rw [List.replicate_succ, List.flatten_cons, ih]; rfl

theorem Pm.sorted {n : Nat} {xs : List Nat} (p : Pm n xs) : sortI (xs.map fun (k : Nat) => (k : Int)) = (List.range n).map fun (k : Nat) => (k : Int) := by
  refine sorted_uniq (sortI_sorted _) ?_ ((sortI_perm _).trans (p.perm.map _))
  rw [List.pairwise_map]
  exact List.pairwise_lt_range.imp fun h => by omega
/-- all orders of n places, by the first p -/
def cN (_ : Nat) (row : List Nat) (x : Nat) : Bool := !decide (x ∈ row)
abbrev rowsN (n p : Nat) : List (List Nat) := lvl n cN p
theorem cN_no : ∀ p row x, cN p row x = true → x ∉ row := fun p row x h => by
  simpa [cN] using h
theorem rowsN_pm {n : Nat} : ∀ row ∈ rowsN n n, Pm n row := fun row h => ⟨(lvl_len n row h).1, lvl_nodup cN_no n row h, (lvl_len n row h).2⟩
theorem names_pos (n : Nat) : 0 < (rowsN n n).length := by
  refine lvl_some cN (fun p hp row hr => ?_) n (Nat.le_refl n)
  have h1 := lvl_len p row hr
  by_cases hx : ∃ x, x < n ∧ x ∉ row
  · obtain ⟨x, hx, hn⟩ := hx
    exact ⟨x, hx, by simp [cN, hn]⟩
  · have hall : ∀ x, x < n → x ∈ row := fun x hx' => Classical.byContradiction fun z => hx ⟨x, hx', z⟩
    have := sub_len n row hall
    omega
/-- each order is there -/
theorem lvl_all {n : Nat} : ∀ (p : Nat) (xs : List Nat), xs.length = p → xs.Nodup → (∀ x ∈ xs, x < n) → xs ∈ rowsN n p
  | 0, xs, h, _, _ => by
    have : xs = [] := List.length_eq_zero_iff.mp h
    subst this
    simp [rowsN, lvl]
  | p + 1, xs, h, hn, hl => by
    rcases List.eq_nil_or_concat xs with e | ⟨r, x, e⟩
    · subst e; simp at h
    · subst e
      simp only [List.concat_eq_append] at h hn hl ⊢
      rw [List.nodup_append] at hn
      have ih := lvl_all p r (by simpa using h) hn.1 fun y hy => hl y (List.mem_append_left _ hy)
      simp only [rowsN, lvl, List.mem_flatMap, ext, List.mem_map, List.mem_filter, List.mem_range]
      refine ⟨r, ih, x, ⟨hl x (by simp), ?_⟩, rfl⟩
      simp only [cN, Bool.not_eq_true', decide_eq_false_iff_not]
      exact fun hx => hn.2.2 x hx x (by simp) rfl
theorem Pm.inRows {n : Nat} {xs : List Nat} (p : Pm n xs) : xs ∈ rowsN n n := lvl_all n xs p.len p.nd p.lt
abbrev encR (row : List Nat) : D := .p (natT row)
theorem pures_encR (l : List (List Nat)) : pures (l.map encR) = some (l.map natT) := pures_mapP l natT
/-- a part of a table -/
def subT (f : Nat → Nat → Int) (xs : List Nat) : T := .tup (xs.map fun i => .tup (xs.map fun j => .int (f i j)))
theorem subT_tab (f : Nat → Nat → Int) (xs : List Nat) : subT f xs = tabT xs.length fun a b => f (at0 xs a) (at0 xs b) := by
  unfold tabT rowT subT
  congr 1
  refine List.ext_getElem (by simp) fun i h1 h2 => ?_
  have hi : i < xs.length := by simpa using h1
  simp only [List.getElem_map, List.getElem_range, at0, List.getElem?_eq_getElem hi, Option.getD_some]
  congr 1
  refine List.ext_getElem (by simp) fun j h1 h2 => ?_
  have hj : j < xs.length := by simpa using h1
  simp [hj]
theorem subT_idx {n : Nat} {xs : List Nat} (p : Pm n xs) (f : Nat → Nat → Int) : subT f ((List.range n).map fun k => xs.idxOf k) = tabT n fun a b => f (xs.idxOf a) (xs.idxOf b) := by
  rw [subT_tab, List.length_map, List.length_range]
  unfold tabT rowT
  refine congrArg T.tup (List.map_congr_left fun a ha => congrArg T.tup (List.map_congr_left fun b hb => congrArg T.int ?_))
  have ha := List.mem_range.mp ha
  have hb := List.mem_range.mp hb
  simp [at0, ha, hb]
theorem Pm.idx {n : Nat} {xs : List Nat} (p : Pm n xs) : ∀ i, i < n → xs.idxOf i < n := fun i hi => by
  have := List.idxOf_lt_length_of_mem (p.mem hi)
  rw [p.len] at this
  exact this
theorem Tab.ren {n : Nat} {xs : List Nat} {f : Nat → Nat → Int} (t : Tab n f) (p : Pm n xs) : Tab n (fun a b => f (xs.idxOf a) (xs.idxOf b)) := by
  have h := p.idx
  refine ⟨t.n1, t.n7, fun i j hi hj => t.b0 _ _ (h i hi) (h j hj), fun i j hi hj => ?_, fun i j hi hj => t.sy _ _ (h i hi) (h j hj)⟩
  refine (t.dz _ _ (h i hi) (h j hj)).trans ⟨fun e => ?_, fun e => by rw [e]⟩
  have h1 := List.getElem_idxOf (List.idxOf_lt_length_of_mem (p.mem hi))
  have h2 := List.getElem_idxOf (List.idxOf_lt_length_of_mem (p.mem hj))
  rw [← h1, ← h2]
  congr 1
section
variable {ρ : List S} {Q : R → List S → Prop} {n : Nat} {xs : List Nat}
theorem o_lrng1 (h : n < 2 ^ 60) (hl : n ≤ LIM) : opD .lrng1 [.p (.int n)] = some (.l ((List.range n).map fun (i : Nat) => .p (.int i))) := by
  have hr : rngOk 0 (n : Int) = true := by simp [rngOk]; omega
  simp [opD, lrng1D, hr, hl, L, rngL, Function.comp_def]
theorem o_trng1 (h : n < 2 ^ 60) (hl : n ≤ LIM) : opD .trng1 [.p (.int n)] = some (.p (natT (List.range n))) := by
  have hr : rngOk 0 (n : Int) = true := by simp [rngOk]; omega
  simp [opD, trng1D, hr, hl, natT, rngL, Function.comp_def]
theorem o_sortedN : opD .sorted [.p (natT xs)] = some (.l ((sortI (xs.map fun (k : Nat) => (k : Int))).map fun i => .p (.int i))) := by
  simp only [opD, sortedD, natT, seqT, intsOf_map, L, List.map_map]
  rfl
theorem v_lrng1 (h : n < 2 ^ 60) (hl : n ≤ LIM) (hQ : Q (.rv (.l ((List.range n).map fun (i : Nat) => .p (.int i)))) ρ) : V1 .lrng1 (.p (.int n)) ρ Q := ⟨_, o_lrng1 h hl, hQ⟩
theorem v_trng1 (h : n < 2 ^ 60) (hl : n ≤ LIM) (hQ : Q (.rv (.p (natT (List.range n)))) ρ) : V1 .trng1 (.p (.int n)) ρ Q := ⟨_, o_trng1 h hl, hQ⟩
theorem v_sortedN (hQ : Q (.rv (.l ((sortI (xs.map fun (k : Nat) => (k : Int))).map fun i => .p (.int i)))) ρ) : V1 .sorted (.p (natT xs)) ρ Q := ⟨_, o_sortedN, hQ⟩
theorem v_sortedP (p : Pm n xs) (hQ : Q (.rv (.l ((List.range n).map fun (i : Nat) => .p (.int i)))) ρ) : V1 .sorted (.p (natT xs)) ρ Q := v_sortedN (by rw [p.sorted, List.map_map]; exact hQ)
theorem v_eqLi {α : Type} {l : List α} {f : α → Int} (hQ : Q (.rv (.p (.bl true))) ρ) : V2 .eq (.l (l.map fun a => .p (.int (f a)))) (.l (l.map fun a => .p (.int (f a)))) ρ Q := by
  refine ⟨_, ?_, hQ⟩
  have e : items (.l (l.map fun a => D.p (.int (f a)))) = some (l.map fun a => T.int (f a)) := pures_mapP l fun a => T.int (f a)
  have ok : okD (.l (l.map fun a => D.p (.int (f a)))) = true := by
    simp only [okD, e, List.all_map, Function.comp_def, okT]
    simp
  simp only [opD, eqOp, eqD, ok, Bool.true_or, if_true, e, eqTs_refl, Option.map_some, B]
  rfl
theorem v_index {k : Nat} (h : k ∈ xs) (hQ : Q (.rv (.p (.int (xs.idxOf k : Nat)))) ρ) : V2 .index (.p (natT xs)) (.p (.int (k : Int))) ρ Q := ⟨_, by simp only [opD, indexD, natT, seqT, okT, if_true, idxT_nat h, Option.map_some, I], hQ⟩
theorem v_nin2 {a b c : Int} (hQ : Q (.rv (.p (.bl (!(decide (b = a) || decide (c = a)))))) ρ) : V2 .nin (.p (.int a)) (.p (.tup [.int b, .int c])) ρ Q := ⟨_, by simp [opD, inD, seqT, okT, eqT, B, beq_dec], hQ⟩
theorem v_in2 {a b c : Int} (hQ : Q (.rv (.p (.bl (decide (b = a) || decide (c = a))))) ρ) : V2 .inn (.p (.int a)) (.p (.tup [.int b, .int c])) ρ Q := ⟨_, by simp [opD, inD, seqT, okT, eqT, B, beq_dec], hQ⟩
end
/-- a square of drawn numbers -/
theorem RawI.tab {n : Nat} {top : Int} {g : Nat → Nat → Int} (k2 : RawI top n 0 g) (h1 : 1 ≤ n) (h7 : n ≤ 7) (ht : top ≤ 1000) : Tab n g := by
  have ok : ∀ a b, a ≠ b → a < n → b < n → 1 ≤ g a b ∧ g a b ≤ top := fun a b hab ha hb => by
    rcases Nat.lt_or_gt_of_ne hab with z | z
    · exact k2.ok a b z (.inl hb)
    · rw [k2.sy a b]; exact k2.ok b a z (.inl ha)
  refine ⟨h1, h7, fun i j hi hj => ?_, fun i j hi hj => ⟨fun e => ?_, fun e => by rw [e]; exact k2.dz j⟩, fun i j _ _ => k2.sy i j⟩
  · by_cases e : i = j
    · subst e; rw [k2.dz]; omega
    · have := ok i j e hi hj; omega
  · by_cases e2 : i = j
    · exact e2
    · have := ok i j e2 hi hj; omega
/-- the triangles -/
def Snd (n : Nat) (f : Nat → Nat → Int) : Prop := ∀ i j k, i < n → j < n → k < n → f i k ≤ f i j + f j k
/-! ### the hand that draws -/
def hs (cells : List Int) (a : Nat) (b c e : Int) : D := .l [.l (cells.map fun i => .p (.int i)), .p (.int a), .p (.int b), .p (.int c), .p (.int e)]
def IsHand (h : D) : Prop := ∃ cells a b c e, h = hs cells a b c e
theorem hand_l {h : D} (hh : IsHand h) : ∃ ds, h = .l ds := by obtain ⟨_, _, _, _, _, rfl⟩ := hh; exact ⟨_, rfl⟩
theorem hand_np {h : D} (hh : IsHand h) : isP h = false := by obtain ⟨_, rfl⟩ := hand_l hh; rfl
structure KBk (rs : List R) (os : List (Option D)) (ρ : List S) (F : List S → Prop) : Prop where
  out : ∃ ρ2, back ρ rs os = some ρ2 ∧ F ρ2
theorem K_bb {rs : List R} {os : List (Option D)} {ρ ρ2 : List S} {F : List S → Prop} (h : back ρ rs os = some ρ2) (f : F ρ2) : KBk rs os ρ F := ⟨ρ2, h, f⟩
section
variable {Γ : List CT} {q : Bool} {ρ ρ1 ρ0 : List S} {Q : R → List S → Prop} {n i j k : Nat} {g : Nat → Nat → Int} {f : Nat → Int} {v : Int} {b : Ex} {ri : R} {d : D} {xs : List Nat}
/-! ### squares of numbers -/
theorem mat_get (h : i < n) : ((List.range n).map fun i => rowL n (g i))[i]? = some (rowL n (g i)) := by simp [h]
structure KIm (n : Nat) (g : Nat → Nat → Int) (i : Nat) (ri : R) (ρ : List S) (Q : R → List S → Prop) : Prop where
  out : ∃ k : Nat, valR ρ ri = some (.p (.int k)) ∧ k < n ∧ look ρ i = .val (matD n g) ∧ Q (.bv (rowL n (g k))) ρ
theorem K_im (h1 : valR ρ ri = some (.p (.int k))) (h2 : look ρ i = .val (matD n g)) (h3 : k < n) (hQ : Q (.bv (rowL n (g k))) ρ) : KIm n g i ri ρ Q := ⟨k, h1, h3, h2, hQ⟩
theorem W_idxM (h0 : look ρ i = .val d) (h1 : d = matD n g) (h : W Γ q b ρ fun ri ρ2 => KIm n g i ri ρ2 Q) : W Γ q (.idx (.nm i) b) ρ Q := by
  obtain ⟨ri, ρ2, e, k, h2, h3, h4, h5⟩ := h
  subst h1
  refine ⟨.bv (rowL n (g k)), ρ2, ?_, h5⟩
  have e0 : PF.ev Γ q (.nm i) ρ = some (.nm i, ρ) := by rw [ev_1, h0]; rfl
  have h4' : look ρ2 i = .val (.l ((List.range n).map fun i => rowL n (g i))) := h4
  have e1 : L2.atI ((List.range n).map fun i => rowL n (g i)) (k : Int) = some (rowL n (g k)) := by
    rw [atI_nat (by simpa using h3), mat_get h3]
  rw [ev_4, e0]
  have h6 : valR ρ2 (.nm i) = some (.l ((List.range n).map fun i => rowL n (g i))) := by simp only [valR, h4']
  simp only [lent, Bool.or_false, e, h6, h2, e1]
  rfl
theorem v_rowL (h : j < n) (hQ : Q (.rv (.p (.int (f j)))) ρ) : VI (rowL n f) (.p (.int (j : Nat))) ρ Q := ⟨_, by
  have := itemD_lmap (l := List.range n) (f := fun j => T.int (f j)) (i := j) (by simpa using h)
  simpa [rowL] using this, hQ⟩
theorem v_len_mat (hQ : Q (.rv (.p (.int (n : Nat)))) ρ) : V1 .len (matD n g) ρ Q := ⟨_, by simp [opD, lenD, matD, I], hQ⟩
theorem v_len_rowL (hQ : Q (.rv (.p (.int (n : Nat)))) ρ) : V1 .len (rowL n f) ρ Q := ⟨_, by simp [opD, lenD, rowL, I], hQ⟩
theorem mat_set : ((List.range n).map fun i => rowL n (g i)).set i (.l (((List.range n).map fun b => D.p (.int (g i b))).set j (.p (.int v)))) = (List.range n).map fun a => rowL n (upd2 g i j v a) := by
  refine List.ext_getElem (by simp) fun a h1 h2 => ?_
  simp only [List.getElem_set, List.getElem_map, List.getElem_range]
  split
  · rename_i e
    subst e
    refine congrArg D.l (List.ext_getElem (by simp) fun b h3 h4 => ?_)
    simp only [List.getElem_set, List.getElem_map, List.getElem_range, upd2, true_and]
    split
    · rename_i e; rw [if_pos e.symm]
    · rename_i e; rw [if_neg (Ne.symm e)]
  · rename_i e
    refine congrArg D.l (List.map_congr_left fun b hb => ?_)
    simp only [upd2]
    rw [if_neg fun z => e z.1.symm]
theorem K_st2m {a c : Nat} {ra rb : R} {F : List S → Prop} (h0 : look ρ i = .val d) (h1 : d = matD n g) (h2 : valR ρ ra = some (.p (.int a))) (h3 : valR ρ rb = some (.p (.int c))) (h4 : a < n) (h5 : c < n) (h6 : put ρ i (.val (matD n (upd2 g a c v))) = ρ1) (hF : F ρ1) : KSt2 i (.p (.int v)) ra rb ρ F := by
  subst h1
  refine ⟨a, c, _, a, _, c, ρ1, h2, h3, h0, ixN_nat (by simpa using h4), mat_get h4, ixN_nat (by simpa using h5), ?_, hF⟩
  rw [mat_set]
  exact h6
theorem src_mat (h1 : look ρ1 i = .val (matD n g)) (h0 : look ρ0 i = .val (matD n g)) (hn : 1 ≤ n) : Src 0 [.nm i] ρ1 ρ0 true ((List.range n).map fun i => rowL n (g i)) := by
  have e : pures ((List.range n).map fun i => rowL n (g i)) = none := by
    obtain ⟨m, rfl⟩ : ∃ m, n = m + 1 := ⟨n - 1, by omega⟩
    rw [List.range_succ_eq_map, List.map_cons]
    rfl
  refine ⟨.lent ((List.range n).map fun i => rowL n (g i)), ?_, Its.of rfl, rfl⟩
  have h1' : look ρ1 i = .val (.l ((List.range n).map fun i => rowL n (g i))) := h1
  simp only [srcK, sqOf, h1', e, Option.map_none, srcL]
theorem v_tuple_rowL (hQ : Q (.rv (.p (rowT n f))) ρ) : V1 .tuple (rowL n f) ρ Q := ⟨_, o_tuple_map (l := List.range n) (f := fun j => T.int (f j)), hQ⟩
theorem v_tuple_tab (hQ : Q (.rv (.p (tabT n g))) ρ) : V1 .tuple (.l ((List.range n).map fun i => .p (rowT n (g i)))) ρ Q := ⟨_, o_tuple_map, hQ⟩
theorem v_tuple_row (hQ : Q (.rv (.p (rowT n f))) ρ) : V1 .tuple (.l ((List.range n).map fun j => .p (.int (f j)))) ρ Q := ⟨_, o_tuple_map, hQ⟩
theorem v_tuple_nat (hQ : Q (.rv (.p (natT xs))) ρ) : V1 .tuple (.l (xs.map fun (k : Nat) => .p (.int (k : Int)))) ρ Q := ⟨_, o_tuple_map, hQ⟩
theorem v_list_row (hQ : Q (.rv (rowL n f)) ρ) : V1 .list (.p (rowT n f)) ρ Q := ⟨_, o_list_map, hQ⟩
theorem v_list_nat (hQ : Q (.rv (.l (xs.map fun (k : Nat) => .p (.int (k : Int))))) ρ) : V1 .list (.p (natT xs)) ρ Q := ⟨_, o_list_map, hQ⟩
theorem v_mul0 (hn : n ≤ LIM) (hQ : Q (.rv (rowL n fun _ => v)) ρ) : V2 .mul (.l [.p (.int v)]) (.p (.int (n : Nat))) ρ Q := by
  refine ⟨_, ?_, hQ⟩
  have e : ∀ n : Nat, (List.replicate n [T.int v]).flatten.map D.p = (List.range n).map fun _ => D.p (T.int v) := fun n => by
    induction n with
    | zero => rfl
    | succ n ih => rw [List.replicate_succ, List.flatten_cons, List.map_append, ih, List.range_succ_eq_map]; simp
  have h3 : (n : Int) < 2 ^ 63 := by
    have h5 : LIM = 16777216 := rfl
    omega
  have h4 : -(2 ^ 63 : Int) ≤ (n : Int) := by omega
  simp only [opD, mulD, pures, Option.map_some, h3, h4, Int.toNat_natCast, List.length_singleton, Nat.one_mul, hn, decide_true, Bool.and_self, if_true, L]
  rw [e]; rfl
theorem rowL_np : isP (rowL n f) = false := rfl
theorem matD_np : isP (matD n g) = false := rfl
end
/-! ### pairs, ranges from a number on, lists joined -/
theorem rng2_items {a b : Nat} {ρ0 : List S} (hb : b < 2 ^ 60) : Its (.rng (a : Int) ((b : Int) - a).toNat) ρ0 ((List.range' a (b - a)).map fun (i : Nat) => .p (.int i)) := by
  have h := rng_src (lo := (a : Int)) (n := ((b : Int) - a).toNat) (ρ0 := ρ0)
  have e : (List.range ((b : Int) - a).toNat).map (fun (i : Nat) => D.p (.int (a + i))) = (List.range' a (b - a)).map fun (i : Nat) => .p (.int i) := by
    have e1 : ((b : Int) - a).toNat = b - a := by omega
    rw [e1, List.range'_eq_map_range, List.map_map]
    refine List.map_congr_left fun i _ => ?_
    simp
  rw [e] at h
  exact h
section
variable {ρ1 ρ0 : List S} {r r2 : R} {a b : Nat} {P : List S → Prop} {tg : Tg} {body : List St}
theorem src_r2N {a' : Int} (h : valR ρ1 r = some (.p (.int a'))) (h' : valR ρ1 r2 = some (.p (.int (b : Nat)))) (ha : a' = (a : Nat)) (ha2 : a < 2 ^ 60) (hb : b < 2 ^ 60) : Src 2 [r, r2] ρ1 ρ0 false ((List.range' a (b - a)).map fun (i : Nat) => .p (.int i)) := by
  subst ha
  have hr : rngOk (a : Int) (b : Int) = true := by simp [rngOk]; omega
  exact ⟨.rng a ((b : Int) - a).toNat, by simp only [srcK, h, h', rngS, hr, if_true], rng2_items hb, rfl⟩
theorem src_r2S (h : valR ρ1 r = some (.p (.int ((a : Int) + 1)))) (h' : valR ρ1 r2 = some (.p (.int (b : Nat)))) (ha2 : a < 2 ^ 59) (hb : b < 2 ^ 60) : Src 2 [r, r2] ρ1 ρ0 false ((List.range' (a + 1) (b - (a + 1))).map fun (i : Nat) => .p (.int i)) := src_r2N h h' (by omega) (by omega) hb
theorem src_r2O (h : valR ρ1 r = some (.p (.int 1))) (h' : valR ρ1 r2 = some (.p (.int (b : Nat)))) (hb : b < 2 ^ 60) : Src 2 [r, r2] ρ1 ρ0 false ((List.range' 1 (b - 1)).map fun (i : Nat) => .p (.int i)) := src_r2N h h' rfl (by omega) hb
theorem srcF_r2N {a' : Int} (h : valR ρ1 r = some (.p (.int a'))) (h' : valR ρ1 r2 = some (.p (.int (b : Nat)))) (ha : a' = (a : Nat)) (ha2 : a < 2 ^ 60) (hb : b < 2 ^ 60) : SrcF tg body 2 [r, r2] ρ1 P ((List.range' a (b - a)).map fun (i : Nat) => .p (.int i)) := by
  subst ha
  have hr : rngOk (a : Int) (b : Int) = true := by simp [rngOk]; omega
  obtain ⟨h1, h2, h3⟩ := rng2_items (a := a) (b := b) (ρ0 := []) hb
  exact ⟨.rng a ((b : Int) - a).toNat, by simp only [srcK, h, h', rngS, hr, if_true], h1, rfl, fun ρ _ => ⟨rfl, fun j hj => h3 j hj⟩⟩
theorem srcF_r2S (h : valR ρ1 r = some (.p (.int ((a : Int) + 1)))) (h' : valR ρ1 r2 = some (.p (.int (b : Nat)))) (ha2 : a < 2 ^ 59) (hb : b < 2 ^ 60) : SrcF tg body 2 [r, r2] ρ1 P ((List.range' (a + 1) (b - (a + 1))).map fun (i : Nat) => .p (.int i)) := srcF_r2N h h' (by omega) (by omega) hb
end
theorem forall_range' {a n : Nat} {P : Nat → Prop} (h : ∀ i, a ≤ i → i < n → P i) : ∀ i, i ∈ List.range' a (n - a) → P i := fun i hi => by
  have := List.mem_range'_1.mp hi
  exact h i (by omega) (by omega)
theorem v_catD {as bs : List D} {ts us : List T} {ρ : List S} {Q : R → List S → Prop} (h1 : pures as = some ts) (h2 : pures bs = some us) (h3 : as.length + bs.length ≤ LIM) (hQ : Q (.rv (.l (as ++ bs))) ρ) : V2 .add (.l as) (.l bs) ρ Q := by
  refine ⟨_, ?_, hQ⟩
  have e1 := pures_eq h1
  have e2 := pures_eq h2
  have h3' : ts.length + us.length ≤ LIM := by rw [e1, e2] at h3; simpa using h3
  simp only [opD, addD, h1, h2, h3', if_true, L]
  rw [e1, e2, List.map_append]
abbrev pairT (p : Nat × Nat) : T := .tup [.int (p.1 : Nat), .int (p.2 : Nat)]
abbrev encP (p : Nat × Nat) : D := .p (pairT p)
/-- the pairs of n places -/
def pairsOf (n i : Nat) : List (Nat × Nat) := (List.range' (i + 1) (n - (i + 1))).map fun j => (i, j)
def pairsTo (n k : Nat) : List (Nat × Nat) := (List.range k).flatMap (pairsOf n)
abbrev pairsN (n : Nat) : List (Nat × Nat) := pairsTo n n
theorem pairsTo_succ (n k : Nat) : pairsTo n (k + 1) = pairsTo n k ++ pairsOf n k := by
  unfold pairsTo
  rw [List.range_succ, List.flatMap_append]
  simp
theorem mem_pairs {n : Nat} {p : Nat × Nat} : p ∈ pairsN n ↔ p.1 < p.2 ∧ p.2 < n := by
  obtain ⟨i, j⟩ := p
  simp only [pairsN, pairsTo, pairsOf, List.mem_flatMap, List.mem_range, List.mem_map, List.mem_range'_1, Prod.mk.injEq]
  constructor
  · rintro ⟨a, ha, b, hb, rfl, rfl⟩; omega
  · rintro ⟨h1, h2⟩; exact ⟨i, by omega, j, by omega, rfl, rfl⟩
theorem pairsTo_len (n k : Nat) : (pairsTo n k).length ≤ k * n := by
  induction k with
  | zero => simp [pairsTo]
  | succ k ih =>
    rw [pairsTo_succ, List.length_append, Nat.succ_mul]
    have : (pairsOf n k).length ≤ n := by simp [pairsOf]
    omega
theorem pairs_lim {n k : Nat} (h7 : n ≤ 7) (hk : k ≤ n) : (pairsTo n k).length ≤ 49 := by
  have := pairsTo_len n k
  have := Nat.mul_le_mul (show k ≤ 7 by omega) h7
  omega
theorem lim49 {k : Nat} (h : k ≤ 1000) : k ≤ LIM := Nat.le_trans h (Nat.le_of_ble_eq_true rfl)
theorem v_item_at {xs : List Nat} {k : Nat} {ρ : List S} {Q : R → List S → Prop} (h : k < xs.length) (hQ : Q (.rv (.p (.int (at0 xs k : Nat)))) ρ) : VI (.p (natT xs)) (.p (.int (k : Nat))) ρ Q := by
  have e : at0 xs k = xs[k] := by simp [at0, List.getElem?_eq_getElem h]
  rw [e] at hQ
  exact v_item_nat h hQ
theorem Pm.at {n : Nat} {xs : List Nat} (p : Pm n xs) {k : Nat} (h : k < n) : at0 xs k < n := by
  have hk : k < xs.length := by rw [p.len]; exact h
  simp only [at0, List.getElem?_eq_getElem hk, Option.getD_some]
  exact p.lt _ (List.getElem_mem hk)
theorem pairs_LIM {n : Nat} (h7 : n ≤ 7) : (pairsN n).length ≤ LIM := lim49 (Nat.le_trans (pairs_lim h7 (Nat.le_refl n)) (by decide))
theorem rows_LIM {n : Nat} (h7 : n ≤ 7) : (rowsN n n).length ≤ LIM := by
  have : (lvl n cN n).length + n < LIM := lvl_lim h7 h7 (Nat.le_refl n)
  have e : (rowsN n n).length = (lvl n cN n).length := rfl
  omega
end PF

set_option Elab.async false
set_option linter.all false
set_option maxRecDepth 100000
/-! PF35: greatest, least, first of rows in order -/
namespace PF
/-! ### the greatest of numbers -/
def mxOf : List Int → Int
  | [] => 0
  | x :: r => r.foldl max x
theorem foldmax_spec : ∀ (r : List Int) (x : Int), r.foldl max x ∈ x :: r ∧ ∀ y ∈ x :: r, y ≤ r.foldl max x
  | [], x => by simp
  | z :: r, x => by
    simp only [List.foldl_cons]
    obtain ⟨h1, h2⟩ := foldmax_spec r (max x z)
    refine ⟨?_, fun y hy => ?_⟩
    · rcases List.mem_cons.mp h1 with e | e
      · rw [e]
        rcases Int.le_total x z with h | h
        · rw [Int.max_eq_right h]; simp
        · rw [Int.max_eq_left h]; simp
      · simp [e]
    · have h3 := h2 (max x z) List.mem_cons_self
      rcases List.mem_cons.mp hy with e | e
      · subst e; omega
      · rcases List.mem_cons.mp e with e | e
        · subst e; omega
        · exact h2 y (List.mem_cons_of_mem _ e)
theorem mxOf_mem {l : List Int} (h : l ≠ []) : mxOf l ∈ l := by
  cases l with
  | nil => exact absurd rfl h
  | cons x r => exact (foldmax_spec r x).1
theorem le_mxOf {l : List Int} {y : Int} (h : y ∈ l) : y ≤ mxOf l := by
  cases l with
  | nil => cases h
  | cons x r => exact (foldmax_spec r x).2 y h
theorem mxOf_le {l : List Int} {b : Int} (h : l ≠ []) (hb : ∀ y ∈ l, y ≤ b) : mxOf l ≤ b := hb _ (mxOf_mem h)
theorem mxOf_congr {l m : List Int} (h : l ≠ []) (e : ∀ x, x ∈ l ↔ x ∈ m) : mxOf l = mxOf m := by
  have hm : m ≠ [] := fun z => by
    subst z
    have := (e _).mp (mxOf_mem h)
    cases this
  exact Int.le_antisymm (le_mxOf ((e _).mp (mxOf_mem h))) (le_mxOf ((e _).mpr (mxOf_mem hm)))
def mnOf : List Int → Int
  | [] => 0
  | x :: r => r.foldl min x
theorem foldmin_spec : ∀ (r : List Int) (x : Int), r.foldl min x ∈ x :: r ∧ ∀ y ∈ x :: r, r.foldl min x ≤ y
  | [], x => by simp
  | z :: r, x => by
    simp only [List.foldl_cons]
    obtain ⟨h1, h2⟩ := foldmin_spec r (min x z)
    refine ⟨?_, fun y hy => ?_⟩
    · rcases List.mem_cons.mp h1 with e | e
      · rw [e]
        rcases Int.le_total x z with h | h
        · rw [Int.min_eq_left h]; simp
        · rw [Int.min_eq_right h]; simp
      · simp [e]
    · have h3 := h2 (min x z) List.mem_cons_self
      rcases List.mem_cons.mp hy with e | e
      · subst e; omega
      · rcases List.mem_cons.mp e with e | e
        · subst e; omega
        · exact h2 y (List.mem_cons_of_mem _ e)
theorem mnOf_mem {l : List Int} (h : l ≠ []) : mnOf l ∈ l := by
  cases l with
  | nil => exact absurd rfl h
  | cons x r => exact (foldmin_spec r x).1
theorem mnOf_le {l : List Int} {y : Int} (h : y ∈ l) : mnOf l ≤ y := by
  cases l with
  | nil => cases h
  | cons x r => exact (foldmin_spec r x).2 y h
theorem fold_int (b : Int → Int → Bool) (g : T → T → Bool) (m : Int → Int → Int) (hg : ∀ i j, g (.int i) (.int j) = b i j) (hm : ∀ a y, m a y = if b y a = true then y else a) : ∀ (r : List Int) (x : Int), (r.map T.int).foldl (fun a y => if g y a then y else a) (T.int x) = T.int (r.foldl m x)
  | [], _ => rfl
  | z :: r, x => by
    simp only [List.map_cons, List.foldl_cons]
    rw [show (if g (T.int z) (T.int x) = true then T.int z else T.int x) = T.int (m x z) by rw [hg, hm]; split <;> rfl]
    exact fold_int b g m hg hm r (m x z)
theorem al_ints (l : List Int) : allAl (l.map T.int) = true ∧ (l.map T.int).all (okT 31) = true := by
  simp [allAl, List.all_map, Function.comp_def, alT, okT]
theorem o_max1I {l : List Int} (h : l ≠ []) : opD .max1 [.l (l.map fun i => .p (.int i))] = some (.p (.int (mxOf l))) := by
  obtain ⟨h1, h2⟩ := al_ints l
  have e : items (.l (l.map fun i => D.p (.int i))) = some (l.map T.int) := pures_mapP l T.int
  simp only [opD, mxD, seqT, e, h1, h2, Bool.and_self, if_true]
  cases l with
  | nil => exact absurd rfl h
  | cons x r =>
    simp only [List.map_cons, bestT, mxOf, Option.map_some]
    rw [fold_int (fun y a => decide (a < y)) (fun y a => ltT a y) max (fun i j => by simp [ltT]) (fun a y => by simp; omega)]
theorem o_min1I {l : List Int} (h : l ≠ []) : opD .min1 [.l (l.map fun i => .p (.int i))] = some (.p (.int (mnOf l))) := by
  obtain ⟨h1, h2⟩ := al_ints l
  have e : items (.l (l.map fun i => D.p (.int i))) = some (l.map T.int) := pures_mapP l T.int
  simp only [opD, mxD, seqT, e, h1, h2, Bool.and_self, if_true]
  cases l with
  | nil => exact absurd rfl h
  | cons x r =>
    simp only [List.map_cons, bestT, mnOf, Option.map_some]
    rw [fold_int (fun y a => decide (y < a)) ltT min (fun i j => by simp [ltT]) (fun a y => by simp; omega)]
theorem v_max1I {l : List Int} {ρ : List S} {Q : R → List S → Prop} (h : l ≠ []) (hQ : Q (.rv (.p (.int (mxOf l)))) ρ) : V1 .max1 (.l (l.map fun i => .p (.int i))) ρ Q := ⟨_, o_max1I h, hQ⟩
theorem v_min1I {l : List Int} {ρ : List S} {Q : R → List S → Prop} (h : l ≠ []) (hQ : Q (.rv (.p (.int (mnOf l)))) ρ) : V1 .min1 (.l (l.map fun i => .p (.int i))) ρ Q := ⟨_, o_min1I h, hQ⟩
/-! ### rows in order -/
def lexN : List Nat → List Nat → Bool
  | [], _ :: _ => true
  | x :: xs, y :: ys => if x = y then lexN xs ys else decide (x < y)
  | _, [] => false
theorem ltTs_nat : ∀ xs ys : List Nat, ltTs (xs.map fun (k : Nat) => T.int (k : Int)) (ys.map fun (k : Nat) => T.int (k : Int)) = lexN xs ys
  | [], [] => by simp [ltTs, lexN]
  | [], _ :: _ => by simp [ltTs, lexN]
  | _ :: _, [] => by simp [ltTs, lexN]
  | x :: xs, y :: ys => by
    simp only [List.map_cons, ltTs, lexN, ltTs_nat xs ys, eqT, ltT]
    by_cases h : x = y
    · subst h; simp
    · have : ((x : Int) == (y : Int)) = false := by simp; omega
      rw [this, if_neg h]
      simp
theorem eqTs_nat : ∀ xs ys : List Nat, eqTs (xs.map fun (k : Nat) => T.int (k : Int)) (ys.map fun (k : Nat) => T.int (k : Int)) = decide (xs = ys)
  | [], [] => by simp [eqTs]
  | [], _ :: _ => by simp [eqTs]
  | _ :: _, [] => by simp [eqTs]
  | x :: xs, y :: ys => by
    simp only [List.map_cons, eqTs, eqTs_nat xs ys, eqT]
    by_cases h : x = y
    · subst h; simp
    · have : ((x : Int) == (y : Int)) = false := by simp; omega
      simp [this, h]
theorem lexN_asym : ∀ {xs ys : List Nat}, lexN xs ys = true → lexN ys xs = false
  | [], [], h => by simp [lexN] at h
  | [], _ :: _, _ => by simp [lexN]
  | _ :: _, [], h => by simp [lexN] at h
  | x :: xs, y :: ys, h => by
    simp only [lexN] at h ⊢
    by_cases e : x = y
    · subst e
      simp only [if_true] at h ⊢
      exact lexN_asym h
    · rw [if_neg e] at h
      rw [if_neg (Ne.symm e)]
      simp at h ⊢
      omega
theorem lexN_ne {xs ys : List Nat} (h : lexN xs ys = true) : xs ≠ ys := fun e => by
  subst e
  have := lexN_asym h
  rw [h] at this; cases this
theorem lexN_app : ∀ {xs ys : List Nat} (a b : List Nat), xs.length = ys.length → lexN xs ys = true → lexN (xs ++ a) (ys ++ b) = true
  | [], [], _, _, _, h => by simp [lexN] at h
  | [], _ :: _, _, _, h, _ => by simp at h
  | _ :: _, [], _, _, h, _ => by simp at h
  | x :: xs, y :: ys, a, b, hl, h => by
    simp only [lexN, List.cons_append] at h ⊢
    by_cases e : x = y
    · subst e
      simp only [if_true] at h ⊢
      exact lexN_app a b (by simpa using hl) h
    · rw [if_neg e] at h ⊢; exact h
theorem lexN_same : ∀ (xs : List Nat) {a b : Nat}, a < b → lexN (xs ++ [a]) (xs ++ [b]) = true
  | [], a, b, h => by simp [lexN]; omega
  | x :: xs, a, b, h => by simp [lexN, lexN_same xs h]
theorem rowsN_lex (n : Nat) : ∀ p, (rowsN n p).Pairwise fun a b => lexN a b = true
  | 0 => by simp [rowsN, lvl]
  | p + 1 => by
    have ih := rowsN_lex n p
    have hlen : ∀ r ∈ rowsN n p, r.length = p := fun r hr => (lvl_len p r hr).1
    show ((rowsN n p).flatMap (ext n (cN p))).Pairwise _
    rw [List.pairwise_flatMap]
    refine ⟨fun r hr => ?_, ?_⟩
    · unfold ext
      rw [List.pairwise_map]
      exact (List.pairwise_lt_range.filter _).imp fun h => lexN_same r h
    · refine List.Pairwise.imp_of_mem ?_ ih
      intro a b ha hb h x hx y hy
      obtain ⟨c, _, rfl⟩ := List.mem_map.mp hx
      obtain ⟨d, _, rfl⟩ := List.mem_map.mp hy
      exact lexN_app [c] [d] ((hlen a ha).trans (hlen b hb).symm) h
/-! ### the first of the least -/
def fmin {α : Type} (lt : α → α → Bool) : α → List α → α
  | x, [] => x
  | x, y :: r => fmin lt (if lt y x then y else x) r
theorem fmin_mem {α : Type} (lt : α → α → Bool) : ∀ (r : List α) (x : α), fmin lt x r ∈ x :: r
  | [], x => by simp [fmin]
  | y :: r, x => by
    simp only [fmin]
    have := fmin_mem lt r (if lt y x then y else x)
    rcases List.mem_cons.mp this with e | e
    · rw [e]; split <;> simp
    · simp [e]
theorem fmin_app {α : Type} (lt : α → α → Bool) : ∀ (r : List α) (x y : α), fmin lt x (r ++ [y]) = if lt y (fmin lt x r) then y else fmin lt x r
  | [], x, y => rfl
  | z :: r, x, y => by
    simp only [List.cons_append, fmin]
    exact fmin_app lt r _ y
/-- none is less -/
theorem fmin_le {α : Type} {lt : α → α → Bool} (tr : ∀ a b c, lt b a = false → lt c b = false → lt c a = false) (rf : ∀ a b, lt a b = true → lt b a = false) : ∀ (r : List α) (x : α), ∀ y ∈ x :: r, lt y (fmin lt x r) = false
  | [], x, y, h => by
    have e : y = x := by simpa using h
    subst e
    simp only [fmin]
    cases e2 : lt y y with
    | false => rfl
    | true => have := rf _ _ e2; rw [e2] at this; cases this
  | z :: r, x, y, h => by
    simp only [fmin]
    have irr : ∀ a, lt a a = false := fun a => by
      cases e2 : lt a a with
      | false => rfl
      | true => have := rf _ _ e2; rw [e2] at this; cases this
    have ih := fmin_le tr rf r (if lt z x then z else x)
    have h0 := ih _ List.mem_cons_self
    rcases List.mem_cons.mp h with e | e
    · subst e
      by_cases k : lt z y = true
      · rw [if_pos k] at h0 ⊢
        exact tr _ _ _ h0 (rf _ _ k)
      · rw [if_neg k] at h0 ⊢; exact h0
    · rcases List.mem_cons.mp e with e | e
      · subst e
        by_cases k : lt y x = true
        · rw [if_pos k] at h0 ⊢; exact h0
        · rw [if_neg k] at h0 ⊢
          exact tr _ _ _ h0 (by simpa using k)
      · exact ih y (List.mem_cons_of_mem _ e)
/-- (a number, a row): the least by both is the first of the least by the number, where rows are in order -/
abbrev cR (c : List Nat → Int) (r : List Nat) : T := .tup [.int (c r), natT r]
theorem ltT_cR (c : List Nat → Int) (a b : List Nat) : ltT (cR c a) (cR c b) = if c a = c b then lexN a b else decide (c a < c b) := by
  simp only [cR, ltT, ltTs, eqT, natT, ltTs_nat, eqTs_nat]
  by_cases h : c a = c b
  · simp only [h, beq_self_eq_true, if_true]
    by_cases e : a = b
    · subst e
      simp
      cases e2 : lexN a a with
      | false => rfl
      | true => exact absurd rfl (lexN_ne e2)
    · simp [e]
  · have : (c a == c b) = false := by simpa using h
    simp [this, h]
theorem fold_cR (c : List Nat → Int) : ∀ (r : List (List Nat)) (x : List Nat), (∀ y ∈ r, lexN x y = true) → r.Pairwise (fun a b => lexN a b = true) → (r.map (cR c)).foldl (fun a y => if ltT y a then y else a) (cR c x) = cR c (fmin (fun a b => decide (c a < c b)) x r)
  | [], x, _, _ => rfl
  | y :: r, x, h, hp => by
    have hxy := h y List.mem_cons_self
    have hp' := List.pairwise_cons.mp hp
    simp only [List.map_cons, List.foldl_cons, fmin]
    have e : ltT (cR c y) (cR c x) = decide (c y < c x) := by
      rw [ltT_cR]
      split
      · rename_i e
        rw [lexN_asym hxy, e]; simp
      · rfl
    rw [e]
    by_cases k : c y < c x
    · simp only [k, decide_true, if_true]
      exact fold_cR c r y hp'.1 hp'.2
    · simp only [k, decide_false, Bool.false_eq_true, if_false]
      exact fold_cR c r x (fun z hz => h z (List.mem_cons_of_mem _ hz)) hp'.2
theorem al_cR (c : List Nat → Int) (l : List (List Nat)) (hl : ∀ a ∈ l, ∀ b ∈ l, alTs (a.map fun (k : Nat) => T.int (k : Int)) (b.map fun (k : Nat) => T.int (k : Int)) = true) : allAl (l.map (cR c)) = true ∧ (l.map (cR c)).all (okT 31) = true := by
  constructor
  · simp only [allAl, List.all_map, List.all_eq_true, Function.comp_def]
    intro a ha b hb
    simp [cR, alT, alTs, natT, hl a ha b hb]
  · simp [List.all_map, Function.comp_def, cR, okT, natT]
theorem alTs_nat : ∀ a b : List Nat, alTs (a.map fun (k : Nat) => T.int (k : Int)) (b.map fun (k : Nat) => T.int (k : Int)) = true
  | [], _ => by simp [alTs]
  | _ :: _, [] => by simp [alTs]
  | x :: xs, y :: ys => by simp [alTs, alT, alTs_nat xs ys]
theorem o_min1R (c : List Nat → Int) {x : List Nat} {r : List (List Nat)} (hp : (x :: r).Pairwise fun a b => lexN a b = true) : opD .min1 [.l ((x :: r).map fun a => .p (cR c a))] = some (.p (cR c (fmin (fun a b => decide (c a < c b)) x r))) := by
  obtain ⟨h1, h2⟩ := al_cR c (x :: r) fun a _ b _ => alTs_nat a b
  have e : items (.l ((x :: r).map fun a => D.p (cR c a))) = some ((x :: r).map (cR c)) := pures_mapP (x :: r) (cR c)
  simp only [opD, mxD, seqT, e, h1, h2, Bool.and_self, if_true]
  have hp' := List.pairwise_cons.mp hp
  simp only [List.map_cons, bestT, Option.map_some, fold_cR c r x hp'.1 hp'.2]
/-- the numbers of pairs -/
theorem Tab.pos {n : Nat} {f : Nat → Nat → Int} (t : Tab n f) {i j : Nat} (hi : i < n) (hj : j < n) (h : i ≠ j) : 1 ≤ f i j ∧ f i j ≤ 1000 := by
  have h1 := t.b0 i j hi hj
  have h2 := t.dz i j hi hj
  have : f i j ≠ 0 := fun e => h (h2.mp e)
  omega
theorem Pm.at_ne {n : Nat} {xs : List Nat} (p : Pm n xs) {i j : Nat} (hi : i < n) (hj : j < n) (h : i ≠ j) : at0 xs i ≠ at0 xs j := by
  have h1 : i < xs.length := by rw [p.len]; exact hi
  have h2 : j < xs.length := by rw [p.len]; exact hj
  simp only [at0, List.getElem?_eq_getElem h1, List.getElem?_eq_getElem h2, Option.getD_some]
  have nd := List.pairwise_iff_getElem.mp p.nd
  rcases Nat.lt_or_gt_of_ne h with z | z
  · exact nd i j h1 h2 z
  · exact (nd j i h2 h1 z).symm
/-- the places of an order, back -/
theorem Pm.at_idx {n : Nat} {xs : List Nat} (p : Pm n xs) {k : Nat} (h : k < n) : at0 xs (xs.idxOf k) = k := by
  have h1 := List.idxOf_lt_length_of_mem (p.mem h)
  simp only [at0, List.getElem?_eq_getElem h1, Option.getD_some]
  exact List.getElem_idxOf h1
theorem Pm.idx_at {n : Nat} {xs : List Nat} (p : Pm n xs) {k : Nat} (h : k < n) : xs.idxOf (at0 xs k) = k := by
  have h2 := p.at h
  rcases Nat.lt_or_ge (xs.idxOf (at0 xs k)) n with h3 | h3
  · by_cases e : xs.idxOf (at0 xs k) = k
    · exact e
    · exact absurd (p.at_idx h2) (p.at_ne h3 h e)
  · have := p.idx _ h2; omega
/-- the order turned about -/
def inv (xs : List Nat) : List Nat := (List.range xs.length).map fun k => xs.idxOf k
theorem at0_inv {n : Nat} {xs : List Nat} (p : Pm n xs) {k : Nat} (h : k < n) : at0 (inv xs) k = xs.idxOf k := by
  have h1 : k < xs.length := by rw [p.len]; exact h
  simp [at0, inv, h1]
theorem Pm.inv {n : Nat} {xs : List Nat} (p : Pm n xs) : Pm n (PF.inv xs) := by
  refine ⟨by simp [PF.inv, p.len], ?_, fun x hx => ?_⟩
  · unfold PF.inv
    rw [p.len]
    show List.Pairwise _ _
    rw [List.pairwise_map]
    refine List.Pairwise.imp_of_mem (fun {a b} ha hb h e => ?_) (List.nodup_range (n := n))
    have ha := List.mem_range.mp ha
    have hb := List.mem_range.mp hb
    have := p.at_idx ha
    rw [e, p.at_idx hb] at this
    exact h this.symm
  · unfold PF.inv at hx
    obtain ⟨k, hk, rfl⟩ := List.mem_map.mp hx
    rw [p.len] at hk
    exact p.idx k (List.mem_range.mp hk)
end PF

set_option Elab.async false
set_option linter.all false
set_option maxRecDepth 100000
/-! PF36: defs that call themselves: so many calls deep; ends of rows -/
namespace PF
open PySem PySem.Spec PyProof.Rows L2
/-- a def that calls itself first of all: k calls deep -/
def recC (Γ : List CT) (a b : Nat) (s : List St) : Nat → CT
  | 0 => fun _ => none
  | k + 1 => mk (recC Γ a b s k :: Γ) a b s
section
variable {P : Program} {w : World} {K : PySem.W.Frag} {mg : Str → Option Value} {base : Heap} {k : Nat} {N : List Str}
theorem cal_none {x : Str} {params : Arguments} {body : List Stmt} {scope : Scope} {f : Addr} {fd : FuncData} {ps : List Str} (F : FunD K x x params body scope [] [] f fd) (hg : mg x = some (.ref f)) (S : FnScope N ps scope)
    (hb : ∀ (kV doc pm : Value) (an : Option Addr) (cdv ct : Value) (us : List Value), us.length = ps.length → bindArgs (PySem.W.fnOf x x params body scope .none kV doc pm an cdv ct) ⟨us, []⟩ = pure (ps.zip us)) : Nonempty (CalG P w K mg base (k + 1) (fun _ => none) x) := by
  have b := F.bindsN hb
  have kp := F.kp
  obtain ⟨oc, od, dV, kV, doc, pm, an, cdv, ct, osl, rfl, lk, hcd, _, _⟩ := F.ex
  exact ⟨⟨f, _, ps, fn_of lk hcd S (fun vs H Q E ⟨ds, Gs, d, os, ow, nd, e, _⟩ => (by cases e)) (fun A outer s H vs Q E hr ⟨ds, Gs, d, os, ow, nd, e, kk⟩ => (by cases e)), hg, kp, b⟩⟩
end
theorem v_head {xs : List Nat} {ρ : List S} {Q : R → List S → Prop} (h : 0 < xs.length) (hQ : Q (.rv (.p (.int (at0 xs 0 : Nat)))) ρ) : VI (.p (natT xs)) (.p (.int 0)) ρ Q := v_item_at (k := 0) h hQ
theorem v_last {xs : List Nat} {ρ : List S} {Q : R → List S → Prop} (h : 0 < xs.length) (hQ : Q (.rv (.p (.int (at0 xs (xs.length - 1) : Nat)))) ρ) : VI (.p (natT xs)) (.p (.int (-1))) ρ Q := ⟨_, by
  have : xs[xs.length - 1]? = some (at0 xs (xs.length - 1)) := by
    have h2 : xs.length - 1 < xs.length := by omega
    simp [at0, h2]
  simp only [itemD, natT, L2.atI, L2.ixN, List.length_map]
  rw [if_neg (by omega), if_pos (by omega)]
  have e : ((-1 : Int) + xs.length).toNat = xs.length - 1 := by omega
  simp [e, this], hQ⟩
end PF

set_option Elab.async false
set_option linter.all false
set_option maxRecDepth 100000
set_option maxHeartbeats 0
namespace CM
open PF
-- is_integer ['thing']
def b_is_integer : List PF.St := [.ret (.and_ (.op (.isi "int") [(.nm 0)]) (.not_ (.op (.isi "bool") [(.nm 0)])))]
def C_is_integer : CT := mk [] 1 1 b_is_integer
-- is_within ['thing', 'low', 'high']
def b_is_within : List PF.St := [.ret (.and_ (.call 0 [(.nm 0)]) (.chain .le .le (.nm 1) (.nm 0) (.nm 2)))]
def C_is_within : CT := mk [C_is_integer] 3 3 b_is_within
-- is_sized ['thing', 'low', 'high']
def b_is_sized : List PF.St := [.ret (.and_ (.op (.isi "tuple") [(.nm 0)]) (.chain .le .le (.nm 1) (.op .len [(.nm 0)]) (.nm 2)))]
def C_is_sized : CT := mk [] 3 3 b_is_sized
-- is_table ['thing', 'i', 'row', 'one', 'j']
def b_is_table : List PF.St := [.ite (.or_ (.not_ (.call 0 [(.nm 0), (.cst (.int 1)), (.cst (.int 7))])) (.not_ (.op .all [(.comp (.call 0 [(.nm 2), (.op .len [(.nm 0)]), (.op .len [(.nm 0)])]) (.one 2) 0 [(.nm 0)] [])]))) [.ret (.cst (.bl false))] [], .for_ (.many [1, 2]) 3 [(.nm 0)] [.ite (.not_ (.op .all [(.comp (.call 1 [(.nm 3), (.cst (.int 0)), (.cst (.int 1000))]) (.one 3) 0 [(.nm 2)] [])])) [.ret (.cst (.bl false))] [], .ite (.op .any [(.comp (.op .ne [(.op .eq [(.nm 3), (.cst (.int 0))]), (.op .eq [(.nm 1), (.nm 4)])]) (.many [4, 3]) 3 [(.nm 2)] [])]) [.ret (.cst (.bl false))] []] [1, 2], .ret (.op .all [(.comp (.op .all [(.comp (.op .eq [(.idx (.nm 2) (.nm 4)), (.idx (.idx (.nm 0) (.nm 4)) (.nm 1))]) (.one 4) 1 [(.nm 1)] [])]) (.many [1, 2]) 3 [(.nm 0)] [])])]
def C_is_table : CT := mk [C_is_sized, C_is_within] 5 1 b_is_table
-- check_table ['thing']
def b_check_table : List PF.St := [.ite (.not_ (.call 0 [(.nm 0)])) [.fail] []]
def C_check_table : CT := mk [C_is_table] 1 1 b_check_table
-- check_both ['one', 'other']
def b_check_both : List PF.St := [.exp (.call 0 [(.nm 0)]), .exp (.call 0 [(.nm 1)])]
def C_check_both : CT := mk [C_check_table] 2 2 b_check_both
-- common ['one', 'other']
def b_common : List PF.St := [.whl (.op .ne [(.nm 1), (.cst (.int 0))]) [.asgT [0, 1] (.tup [(.nm 1), (.op .mod [(.nm 0), (.nm 1)])])] [], .ret (.op .abs [(.nm 0)])]
def C_common : CT := mk [] 2 2 b_common
-- share ['top', 'bottom', 'divisor']
def b_share : List PF.St := [.asg 2 (.call 0 [(.nm 0), (.nm 1)]), .asg 2 (.ifx (.op .gt [(.nm 1), (.cst (.int 0))]) (.nm 2) (.op .sub [(.cst (.int 0)), (.nm 2)])), .ret (.tup [(.op .fdiv [(.nm 0), (.nm 2)]), (.op .fdiv [(.nm 1), (.nm 2)])])]
def C_share : CT := mk [C_common] 3 2 b_share
-- times ['one', 'other']
def b_times : List PF.St := [.ret (.call 0 [(.op .mul [(.idx (.nm 0) (.cst (.int 0))), (.idx (.nm 1) (.cst (.int 0)))]), (.op .mul [(.idx (.nm 0) (.cst (.int 1))), (.idx (.nm 1) (.cst (.int 1)))])])]
def C_times : CT := mk [C_share] 2 2 b_times
-- is_less ['one', 'other']
def b_is_less : List PF.St := [.ret (.op .lt [(.op .mul [(.idx (.nm 0) (.cst (.int 0))), (.idx (.nm 1) (.cst (.int 1)))]), (.op .mul [(.idx (.nm 1) (.cst (.int 0))), (.idx (.nm 0) (.cst (.int 1)))])])]
def C_is_less : CT := mk [] 2 2 b_is_less
-- raw_part ['table', 'lot', 'i', 'j']
def b_raw_part : List PF.St := [.ret (.op .tuple [(.comp (.op .tuple [(.comp (.idx (.idx (.nm 0) (.nm 2)) (.nm 3)) (.one 3) 0 [(.nm 1)] [])]) (.one 2) 0 [(.nm 1)] [])])]
def C_raw_part : CT := mk [] 4 2 b_raw_part
-- raw_renamed ['table', 'names', 'places', 'name']
def b_raw_renamed : List PF.St := [.asg 2 (.comp (.mth .index (.nm 1) (.nm 3)) (.one 3) 1 [(.op .len [(.nm 1)])] []), .ret (.call 0 [(.nm 0), (.nm 2)])]
def C_raw_renamed : CT := mk [C_raw_part] 4 2 b_raw_renamed
-- are_all ['thing', 'many', 'one']
def b_are_all : List PF.St := [.ite (.or_ (.not_ (.call 1 [(.nm 0), (.nm 1), (.nm 1)])) (.not_ (.op .all [(.comp (.call 0 [(.nm 2), (.cst (.int 0)), (.op .sub [(.nm 1), (.cst (.int 1))])]) (.one 2) 0 [(.nm 0)] [])]))) [.ret (.cst (.bl false))] [], .ret (.op .eq [(.op .sorted [(.nm 0)]), (.op .lrng1 [(.nm 1)])])]
def C_are_all : CT := mk [C_is_within, C_is_sized] 3 2 b_are_all
-- renamed ['table', 'names']
def b_renamed : List PF.St := [.exp (.call 0 [(.nm 0)]), .ite (.not_ (.call 1 [(.nm 1), (.op .len [(.nm 0)])])) [.fail] [], .ret (.call 2 [(.nm 0), (.nm 1)])]
def C_renamed : CT := mk [C_check_table, C_are_all, C_raw_renamed] 2 2 b_renamed
-- all_rows ['some', 'found', 'turn', 'longer', 'row', 'one']
def b_all_rows : List PF.St := [.asg 1 (.lst [(.tup [])]), .for_ (.one 2) 0 [(.nm 0)] [.asg 3 (.lst []), .for_ (.one 4) 0 [(.nm 1)] [.ext 3 (.comp (.op .add [(.nm 4), (.tup [(.nm 5)])]) (.one 5) 0 [(.nm 0)] [(.op .nin [(.nm 5), (.nm 4)])])] [4], .asg 1 (.nm 3)] [2, 3, 4], .ret (.nm 1)]
def C_all_rows : CT := mk [] 6 1 b_all_rows
-- short_triple ['table', 'places', 'i', 'j', 'k']
def b_short_triple : List PF.St := [.asg 1 (.op .lrng1 [(.op .len [(.nm 0)])]), .for_ (.one 2) 0 [(.nm 1)] [.for_ (.one 3) 0 [(.nm 1)] [.for_ (.one 4) 0 [(.nm 1)] [.ite (.and_ (.op .nin [(.nm 3), (.tup [(.nm 2), (.nm 4)])]) (.and_ (.op .lt [(.nm 2), (.nm 4)]) (.op .gt [(.idx (.idx (.nm 0) (.nm 2)) (.nm 4)), (.op .add [(.idx (.idx (.nm 0) (.nm 2)) (.nm 3)), (.idx (.idx (.nm 0) (.nm 3)) (.nm 4))])]))) [.ret (.tup [(.nm 2), (.nm 3), (.nm 4)])] []] [4]] [3, 4]] [2, 3, 4], .ret (.cst .non)]
def C_short_triple : CT := mk [] 5 1 b_short_triple
-- is_sound ['table']
def b_is_sound : List PF.St := [.exp (.call 0 [(.nm 0)]), .ret (.op .is [(.call 1 [(.nm 0)]), (.cst .non)])]
def C_is_sound : CT := mk [C_check_table, C_short_triple] 1 1 b_is_sound
-- check_sound ['table']
def b_check_sound : List PF.St := [.exp (.call 0 [(.nm 0)]), .ite (.op .isn [(.call 1 [(.nm 0)]), (.cst .non)]) [.fail] []]
def C_check_sound : CT := mk [C_check_table, C_short_triple] 1 1 b_check_sound
-- plus ['one', 'other']
def b_plus : List PF.St := [.ret (.call 0 [(.op .add [(.op .mul [(.idx (.nm 0) (.cst (.int 0))), (.idx (.nm 1) (.cst (.int 1)))]), (.op .mul [(.idx (.nm 1) (.cst (.int 0))), (.idx (.nm 0) (.cst (.int 1)))])]), (.op .mul [(.idx (.nm 0) (.cst (.int 1))), (.idx (.nm 1) (.cst (.int 1)))])])]
def C_plus : CT := mk [C_share] 2 2 b_plus
local macro_rules | `(tactic| modx_arm) => `(tactic| first | (simp only [List.length_cons, List.length_nil]; exact Nat.le_of_ble_eq_true rfl) | assumption)
local macro_rules | `(tactic| top_argsB) => `(tactic| first | assumption | exact ok_tab | exact ok_row | exact ok_nat | (with_unfolding_all rfl))
local macro_rules | `(tactic| top_caughtB) => `(tactic| first | exact o_isiT rfl rfl | exact o_isiF rfl rfl)
local macro_rules | `(tactic| k_caught0) => `(tactic| first | assumption | omega | (rw [List.length_range]; first | assumption | omega) | (rw [List.length_range']; exact lim49 (by omega)))
local macro_rules | `(tactic| top_raiseB0) => `(tactic| first | exact own_rv | (dsimp only [PF.own, look, put, reduceIte, Bool.false_eq_true] <;> rfl))
local macro_rules | `(tactic| top_reprB) => `(tactic| first | (simp only [PF.bind, putAll, put, unpk, List.map, reduceIte, Bool.false_eq_true] <;> rfl) | rfl)
local macro_rules | `(tactic| top_strB) => `(tactic| (dsimp only [put, kill, Tg.own, putAll, List.map, back] <;> rfl))
local macro_rules | `(tactic| k_caughtN0) => `(tactic| first
  | exact src_one (.tup isSeq_row) | exact src_one (.tup isSeq_tab) | exact src_one (.tup isSeq_nat) | exact src_enumR (.tup isSeq_row) | exact src_enumR (.tup isSeq_tab)
  | exact src_zipR (.tup isSeq_row) (.tup isSeq_row) | exact src_zipR (.tup isSeq_tab) (.tup isSeq_tab)
  | exact src_one (.tup isSeq_map) | exact src_one (.lst isLst_map) | exact src_one (.live rfl rfl isLst_map)
  | (refine src_r1 rfl ?_; k_caught0) | (refine src_r2S rfl rfl ?_ ?_ <;> k_caught0) | (refine src_r2O rfl rfl ?_ <;> k_caught0) | (refine src_r2 rfl rfl ⟨?_, ?_⟩ ⟨?_, ?_⟩ <;> k_caught0)
  | (refine src_mat rfl rfl ?_; k_caught0) | exact src_enum (.tup isSeq_map) | exact src_zip (.tup isSeq_map) (.tup isSeq_map)
  | exact src_one (.tup isSeq_id))
local macro_rules | `(tactic| mod_arm) => `(tactic| first | assumption | (left; refine big_of ?_ ?_ <;> k_caught0) | (right; refine big_of ?_ ?_ <;> k_caught0))
local macro_rules | `(tactic| k_caughtNB) => `(tactic| first
  | (change V2 _ _ _ _ _; with_reducible first | refine v_eqI ?_ | refine v_add ?_ | refine v_sub ?_ | (refine v_mul ?_ ?_; (focus mod_arm)) | (refine v_mod ?_ ?_; (focus k_caught0)) | (refine v_fdiv ?_ ?_ ?_; (focus k_caught0); (focus k_caught0)) | refine v_neI ?_ | refine v_ltI ?_ | refine v_leI ?_ | refine v_gtI ?_ | refine v_geI ?_ | refine v_eqB ?_ | refine v_neB ?_ | refine v_isNN ?_ | refine v_isnNN ?_ | refine v_isI ?_ | refine v_isnI ?_ | refine v_isT ?_ | refine v_isnT ?_ | refine v_max2 ?_ | refine v_min2 ?_ | refine v_nin2 ?_ | refine v_in2 ?_ | (refine v_index ?_ ?_; (focus k_caught0)) | refine v_eqLi ?_ | refine v_nin_nat ?_ | refine v_in_nat ?_ | (refine v_cat1_nat ?_ ?_; (focus k_caught0)) | (refine v_cat_nat ?_ ?_; (focus k_caught0)) | (refine v_mul0 ?_ ?_; (focus k_caught0)) | (refine v_neS ?_ ?_; (focus top_argsB)) | (refine v_eqS ?_ ?_; (focus top_argsB)))
  | (change V2 _ _ _ _ _; first | refine v_isN rfl ?_ | refine v_isnN rfl ?_)
  | (change VI _ _ _ _; with_reducible first | (refine v_item_tab ?_ ?_; (focus k_caught0)) | (refine v_item_row ?_ ?_; (focus k_caught0)) | (refine v_item_at ?_ ?_; (focus k_caught0)) | refine v_fr0 ?_ | refine v_fr1 ?_ | refine v_it0 ?_ | refine v_it1 ?_ | refine v_it2 ?_ | (refine v_rowL ?_ ?_; (focus k_caught0)) | (refine v_itm ?_ ?_; (focus k_caught0)) | (refine v_itl ?_ ?_; (focus k_caught0)))
  | (change V1 _ _ _ _; with_reducible first | refine v_len_tab ?_ | refine v_len_row ?_ | refine v_len_nat ?_ | refine v_len_mat ?_ | refine v_len_rowL ?_ | refine v_len_map ?_ | refine v_len_lstM ?_ | refine v_len_lst ?_ | refine v_len_tup ?_ | refine v_all ?_ | refine v_any ?_ | refine v_sum ?_ | refine v_tuple_rowL ?_ | refine v_tuple_tab ?_ | refine v_tuple_nat ?_ | refine v_tuple_row ?_ | refine v_tuple_map ?_ | refine v_tuple_lst ?_ | refine v_list_row ?_ | refine v_list_nat ?_ | refine v_list_map ?_ | (refine v_lrng1 ?_ ?_ ?_; (focus k_caught0); (focus k_caught0)) | (refine v_trng1 ?_ ?_ ?_; (focus k_caught0); (focus k_caught0)) | (refine v_sortedP (by assumption) ?_) | refine v_abs ?_ | refine v_int ?_ | refine v_neg ?_)
  | (change V1 _ _ _ _; first | refine v_isiT rfl rfl ?_ | refine v_isiF rfl rfl ?_ | refine v_isi2 (by top_caughtB) (by top_caughtB) ?_))
local macro_rules | `(tactic| k_memK) => `(tactic| first
  | (change ∀ _, _; first | refine forall_range ?_ | refine forall_range' ?_ | intro _)
  | (change W _ _ _ _ _; first | refine W_nmP rfl ?_ | refine W_cst ?_ | refine W_op2 ?_ | refine W_op1 ?_ | (apply W_idxM rfl; (focus with_reducible rfl)) | refine W_idx ?_ | refine W_call rfl ?_ | refine W_nmL rfl rfl ?_ | (refine W_nmL rfl (hand_np ?_) ?_; (focus assumption)) | refine W_boP rfl ?_ | refine W_boL rfl rfl rfl ?_ | refine W_and ?_ | refine W_or ?_ | refine W_not ?_ | refine W_comp0 ?_ | refine W_comp1 ?_ | refine W_tup ?_ | refine W_lst ?_ | refine W_chain ?_ | refine W_op3 ?_ | refine W_mth ?_ | refine W_slc ?_)
  | (change WL _ _ _ _ _; first | refine WL_cons ?_ | refine WL_nil ?_)
  | k_caughtNB
  | (change WS _ _ _ _; first | refine WS_asg ?_ | refine WS_ret ?_ | refine WS_ite ?_ | refine WS_for ?_ | refine WS_exp ?_ | refine WS_asgD ?_ | refine WS_asgT ?_ | refine WS_asg1 ?_ | refine WS_asgM ?_ | refine WS_aug rfl ?_ | refine WS_app rfl ?_ | refine WS_ext rfl ?_ | refine WS_retN ?_ | refine WS_pass ?_ | with_reducible refine WS_nil ?_ | with_reducible refine WS_appC ?_ | with_reducible refine WS_appN ?_ | refine WS_brk ?_ | refine WS_cnt ?_)
  | refine K_2r ?_ | refine K_1r ?_ | refine K_1b ?_ | refine K_ir ?_ | refine K_1 rfl ?_ | refine K_2 rfl rfl ?_ | refine K_i rfl rfl ?_
  | (apply K_f; (focus k_caughtB); (focus top_strB)) | refine K_v rfl rfl ?_ | (apply K_w; (focus top_raiseB0)) | refine K_t rfl ?_ | (apply K_p; (focus top_strB))
  | with_reducible refine K_orT ?_ | with_reducible apply K_orF | with_reducible refine K_andF ?_ | with_reducible apply K_andT | apply K_and | apply K_or | apply K_c o_leI | apply K_c o_ltI | apply K_c o_geI | apply K_c o_gtI | apply K_c o_eqI
  | exact isB_ | exact isV_ | exact ans_ | exact K_ce o_leI | exact K_ce o_ltI | exact K_ce o_geI | exact K_ce o_gtI | exact K_ce o_eqI | refine K_fr rfl ?_ | refine K_fn rfl ?_
  | (apply K_m0; (focus top_strB); (focus k_caughtN0); (focus k_caught0)) | (apply K_m1; (focus top_strB); (focus k_caughtN0); (focus k_caught0))
  | (apply K_e; (focus top_reprB)) | (apply K_ec; (focus top_reprB)) | (apply K_n; (focus top_raiseB0); (focus rfl))
  | (refine K_lm ?_ ?_; (focus modx_arm)) | (apply K_tu; (focus (simp only [pures, Option.map_some] <;> rfl)); (focus modx_arm)) | refine K_oN ?_ | (apply K_oC; (focus top_raiseB0)) | refine K_3 rfl rfl rfl ?_ | (refine K_im rfl rfl ?_ ?_; (focus k_caught0)) | refine K_sn ?_ | refine K_s2 ?_ | refine K_s1 ?_ | (apply K_st2m rfl; (focus with_reducible rfl); (focus rfl); (focus rfl); (focus k_caught0); (focus k_caught0); (focus top_strB)) | (apply K_bb; (focus top_strB)) | refine K_ssC ?_ | refine K_ssN ?_
  | (apply K_ps; (focus top_strB)) | (apply K_u; (focus rfl)) | (apply K_ap rfl; (focus k_caught0); (focus top_strB)) | (apply K_ex rfl; (focus k_caught0); (focus top_strB)) | refine K_if rfl ?_ ?_
  | (apply K_nx; (focus top_strB)) | (apply K_ct; (focus top_strB)) | (apply K_bk; (focus top_strB)) | refine K_rt ?_ | (with_reducible apply K_b; (focus top_reprB)) | with_reducible rfl | refine And.intro rfl (And.intro rfl ?_) | refine K_mt rfl rfl rfl ?_ | refine K_sl1 rfl ?_)
local macro_rules | `(tactic| fold_depth) => `(tactic| (apply Sp_mk; (focus rfl); (focus (dsimp only [startS, List.map, List.length, Nat.zero_add, Nat.reduceAdd, Nat.reduceSub, List.replicate, List.cons_append, List.nil_append] <;> rfl)); (focus (simp only [stsO, stO, Tgt.st, Tg.own, List.flatMap_cons, List.flatMap_nil, List.append_nil, List.nil_append, List.cons_append] <;> rfl))))
local macro_rules | `(tactic| top_caught0) => `(tactic| first
  | (refine srcF_r1 rfl ?_; k_caught0) | (refine srcF_r2S rfl rfl ?_ ?_ <;> k_caught0) | (refine srcF_r2 rfl rfl ⟨?_, ?_⟩ ⟨?_, ?_⟩ <;> k_caught0)
  | exact srcF_one (.tup isSeq_row) | exact srcF_one (.tup isSeq_tab) | exact srcF_one (.tup isSeq_nat) | exact srcF_enumR (.tup isSeq_row) | exact srcF_enumR (.tup isSeq_tab)
  | exact srcF_zipR (.tup isSeq_row) (.tup isSeq_row) | exact srcF_zipR (.tup isSeq_tab) (.tup isSeq_tab)
  | exact srcF_one (.live rfl (fun _ h => by rw [h]; rfl) rfl isLst_map) | exact srcF_one (.lst isLst_map) | exact srcF_one (.tup isSeq_map) | exact srcF_one (.tup isSeq_id))
local macro_rules | `(tactic| top_raise0) => `(tactic| (apply K_foS; (focus top_strB); (focus top_caught0)))

theorem c_is_integer {a : Int} : C_is_integer [.p (.int a)] = some (.p (.bl true), [none]) := by
  refine Sp.eq ?_
  delta C_is_integer b_is_integer
  fold_depth
  repeat k_memK
local macro_rules | `(tactic| k_caughtB) => `(tactic| with_reducible exact c_is_integer)
theorem c_is_within {a b c : Int} : C_is_within [.p (.int a), .p (.int b), .p (.int c)] = some (.p (.bl (decide (b ≤ a) && decide (a ≤ c))), [none, none, none]) := by
  refine Sp.eq ?_
  delta C_is_within b_is_within
  fold_depth
  repeat k_memK
local macro_rules | `(tactic| k_caughtB) => `(tactic| with_reducible exact c_is_within)
theorem c_is_sized {xs : List T} {lo hi : Int} : C_is_sized [.p (.tup xs), .p (.int lo), .p (.int hi)] = some (.p (.bl (decide (lo ≤ xs.length) && decide ((xs.length : Int) ≤ hi))), [none, none, none]) := by
  refine Sp.eq ?_
  delta C_is_sized b_is_sized
  fold_depth
  repeat k_memK
theorem sized_tab {n : Nat} {f : Nat → Nat → Int} {lo hi : Int} : C_is_sized [.p (tabT n f), .p (.int lo), .p (.int hi)] = some (.p (.bl (decide (lo ≤ (n : Int)) && decide ((n : Int) ≤ hi))), [none, none, none]) := by
  have := c_is_sized (xs := (List.range n).map fun i => rowT n (f i)) (lo := lo) (hi := hi)
  simpa [tabT] using this
theorem sized_row {n : Nat} {f : Nat → Int} {lo hi : Int} : C_is_sized [.p (rowT n f), .p (.int lo), .p (.int hi)] = some (.p (.bl (decide (lo ≤ (n : Int)) && decide ((n : Int) ≤ hi))), [none, none, none]) := by
  have := c_is_sized (xs := (List.range n).map fun i => .int (f i)) (lo := lo) (hi := hi)
  simpa [rowT] using this
theorem sized_nat {xs : List Nat} {lo hi : Int} : C_is_sized [.p (natT xs), .p (.int lo), .p (.int hi)] = some (.p (.bl (decide (lo ≤ xs.length) && decide ((xs.length : Int) ≤ hi))), [none, none, none]) := by
  have := c_is_sized (xs := xs.map fun (k : Nat) => T.int (k : Int)) (lo := lo) (hi := hi)
  simpa [natT] using this
local macro_rules | `(tactic| k_caughtB) => `(tactic| with_reducible exact sized_nat)
local macro_rules | `(tactic| k_caughtB) => `(tactic| with_reducible exact sized_tab)
local macro_rules | `(tactic| k_caughtB) => `(tactic| with_reducible exact sized_row)
set_option maxHeartbeats 0 in
theorem c_is_table {n : Nat} {f : Nat → Nat → Int} (t : Tab n f) : C_is_table [.p (tabT n f)] = some (.p (.bl true), [none]) := by
  refine Sp.eq ?_
  have h1 := t.n1
  have h7 := t.n7
  have hl := lim7 h7
  delta C_is_table b_is_table
  fold_depth
  repeat k_memK
  · rename_i h
    simp at h; omega
  · intro _
    repeat k_memK
    refine K_foS (xs := List.range n) (by dsimp only [kill, put] <;> rfl) (srcF_enumR (.tup isSeq_tab)) (forall_range fun i hi => K_b (by top_reprB) ?_) ?_
    · repeat k_memK
      · rename_i h
        have := t.b0 i
        simp at h
        obtain ⟨j, hj, h⟩ := h
        have := this j hi hj
        omega
      · intro _
        repeat k_memK
        · rename_i h
          simp at h
          obtain ⟨j, hj, h⟩ := h
          have := t.dz i j hi hj
          simp [this] at h
          omega
        · intro _
          repeat k_memK
    · repeat k_memK
      refine ⟨?_, rfl⟩
      congr 2
      simp
      intro i hi j hj; exact t.sy i j hi (by omega)
local macro_rules | `(tactic| k_caughtB) => `(tactic| with_reducible exact c_is_table (by assumption))
section
variable {n m : Nat} {f g : Nat → Nat → Int}
theorem c_check_table (t : Tab n f) : C_check_table [.p (tabT n f)] = some (.p .non, [none]) := by
  refine Sp.eq ?_
  delta C_check_table b_check_table
  fold_depth
  repeat k_memK
  · rename_i h; cases h
  repeat k_memK
local macro_rules | `(tactic| k_caughtB) => `(tactic| with_reducible exact c_check_table (by assumption))
theorem c_check_both (t : Tab n f) (u : Tab m g) : C_check_both [.p (tabT n f), .p (tabT m g)] = some (.p .non, [none, none]) := by
  refine Sp.eq ?_
  delta C_check_both b_check_both
  fold_depth
  repeat k_memK
local macro_rules | `(tactic| k_caughtB) => `(tactic| with_reducible exact c_check_both (by assumption) (by assumption))
theorem c_is_less {p r : Int × Int} (h : big64 p.1 = true ∨ big64 r.2 = true) (h2 : big64 r.1 = true ∨ big64 p.2 = true) : C_is_less [.p (fracT p), .p (fracT r)] = some (.p (.bl (decide (p.1 * r.2 < r.1 * p.2))), [none, none]) := by
  refine Sp.eq ?_
  delta C_is_less b_is_less
  fold_depth
  repeat k_memK
theorem gcd_step {a b : Int} (hb : 0 < b) : Int.gcd b (a % b) = Int.gcd a b := by
  rw [Int.emod_def, Int.mul_comm b (a / b), Int.gcd_sub_mul_right_right, Int.gcd_comm]
theorem c_common {a b : Int} (hb : 0 ≤ b) (hb2 : b < FUEL) : C_common [.p (.int a), .p (.int b)] = some (.p (.int (Int.gcd a b : Nat)), [none, none]) := by
  refine Sp.eq ?_
  delta C_common b_common
  fold_depth
  refine WS_whl (fun m ρ => ∃ x y : Int, 0 ≤ y ∧ m = y.toNat ∧ Int.gcd x y = Int.gcd a b ∧ ρ = [.val (.p (.int x)), .val (.p (.int y))]) (ρ0 := [.val (.p (.int a)), .val (.p (.int b))]) (m0 := b.toNat) rfl (by unfold FUEL at *; omega) ⟨a, b, hb, rfl, rfl, rfl⟩ ?_
  rintro m ρ ⟨x, y, hy, rfl, hg, rfl⟩
  repeat k_memK
  refine ⟨fun h => ?_, fun h => ?_⟩
  · have : y = 0 := by simpa using h
    subst this
    repeat k_memK
    rw [Int.gcd_zero_right] at hg
    rw [hg]
    repeat k_memK
  · have : y ≠ 0 := by simpa using h
    have hp : 0 < y := by omega
    repeat k_memK
    have h1 := Int.emod_nonneg x this
    have h2 := Int.emod_lt_of_pos x hp
    exact ⟨(x % y).toNat, by omega, y, x % y, h1, rfl, (gcd_step hp).trans hg, rfl⟩
local macro_rules | `(tactic| k_caughtB) => `(tactic| with_reducible exact c_common (by k_caught0) (by k_caught0))
/-- a fraction in lowest terms -/
def shr (a b : Int) : Int × Int := (a / (Int.gcd a b : Nat), b / (Int.gcd a b : Nat))
theorem gcd_le {a b : Int} (hb : 0 < b) : 0 < Int.gcd a b ∧ (Int.gcd a b : Int) ≤ b := by
  have h := Int.gcd_dvd_right (a := a) (b := b)
  exact ⟨Int.gcd_pos_of_ne_zero_right a (by omega), Int.le_of_dvd hb h⟩
theorem log_ok {b : Int} (hb : 0 < b) (hb2 : b < FUEL) {a : Int} : (Int.gcd a b : Int).natAbs.log2 < 9000 := by
  have := (gcd_le (a := a) hb)
  have h2 : (Int.gcd a b : Int).natAbs < 2 ^ 64 := by unfold FUEL at hb2; omega
  have h3 := (Nat.log2_lt (n := (Int.gcd a b : Int).natAbs) (k := 64) (by omega)).mpr h2
  omega
theorem c_share {a b : Int} (hb : 0 < b) (hb2 : b < FUEL) : C_share [.p (.int a), .p (.int b)] = some (.p (fracT (shr a b)), [none, none]) := by
  refine Sp.eq ?_
  have h0 : 0 ≤ b := by omega
  have hg := gcd_le (a := a) hb
  have hl := log_ok (a := a) hb hb2
  have hg' : (0 : Int) < (Int.gcd a b : Nat) := by omega
  delta C_share b_share
  fold_depth
  repeat k_memK
  refine W_ifX ?_
  repeat k_memK
  refine ⟨fun h => ?_, fun h => absurd hb (by simpa using h)⟩
  repeat k_memK
theorem big_fuel {b : Int} (h1 : 0 < b) (h2 : b < FUEL) : big64 b = true := by
  unfold FUEL at h2
  exact big_of (by omega) (by omega)
theorem c_times {p r : Int × Int} (h1 : big64 p.1 = true ∨ big64 r.1 = true) (h2 : 0 < p.2) (h3 : 0 < r.2) (h4 : p.2 * r.2 < FUEL) : C_times [.p (fracT p), .p (fracT r)] = some (.p (fracT (shr (p.1 * r.1) (p.2 * r.2))), [none, none]) := by
  refine Sp.eq ?_
  have h5 : 0 < p.2 * r.2 := Int.mul_pos h2 h3
  have h6 : p.2 ≤ p.2 * r.2 := by
    have := Int.mul_le_mul_of_nonneg_left (show (1 : Int) ≤ r.2 by omega) (show (0 : Int) ≤ p.2 by omega)
    omega
  have h7 : big64 p.2 = true ∨ big64 r.2 = true := .inl (big_fuel h2 (by omega))
  delta C_times b_times
  fold_depth
  repeat k_memK
  refine K_f (c_share h5 h4) (by dsimp only [back, put] <;> rfl) ?_
  repeat k_memK
theorem c_plus {p r : Int × Int} (h1 : big64 p.1 = true) (h1' : big64 r.1 = true) (h2 : 0 < p.2) (h3 : 0 < r.2) (h4 : p.2 * r.2 < FUEL) : C_plus [.p (fracT p), .p (fracT r)] = some (.p (fracT (shr (p.1 * r.2 + r.1 * p.2) (p.2 * r.2))), [none, none]) := by
  refine Sp.eq ?_
  have h5 : 0 < p.2 * r.2 := Int.mul_pos h2 h3
  have h6 : p.2 ≤ p.2 * r.2 := by
    have := Int.mul_le_mul_of_nonneg_left (show (1 : Int) ≤ r.2 by omega) (show (0 : Int) ≤ p.2 by omega)
    omega
  have h7 : big64 p.2 = true ∨ big64 r.2 = true := .inl (big_fuel h2 (by omega))
  have h8 : big64 p.1 = true ∨ big64 r.2 = true := .inl h1
  have h9 : big64 r.1 = true ∨ big64 p.2 = true := .inl h1'
  delta C_plus b_plus
  fold_depth
  repeat k_memK
  refine K_f (c_share h5 h4) (by dsimp only [back, put] <;> rfl) ?_
  repeat k_memK
theorem c_short_triple (t : Tab n f) (s : Snd n f) : C_short_triple [.p (tabT n f)] = some (.p .non, [none]) := by
  refine Sp.eq ?_
  have h7 := t.n7
  have hl := lim7 h7
  delta C_short_triple b_short_triple
  fold_depth
  repeat k_memK
  top_raise0
  · refine forall_range fun i hi => K_b (by top_reprB) ?_
    repeat k_memK
    top_raise0
    · refine forall_range fun j hj => K_b (by top_reprB) ?_
      repeat k_memK
      top_raise0
      · refine forall_range fun k hk => K_b (by top_reprB) ?_
        repeat k_memK
        · rename_i h
          have := s i j k hi hj hk
          simp at h; omega
        · repeat k_memK
      · repeat k_memK
    · repeat k_memK
  · repeat k_memK
local macro_rules | `(tactic| k_caughtB) => `(tactic| with_reducible exact c_short_triple (by assumption) (by assumption))
theorem c_is_sound (t : Tab n f) (s : Snd n f) : C_is_sound [.p (tabT n f)] = some (.p (.bl true), [none]) := by
  refine Sp.eq ?_
  delta C_is_sound b_is_sound
  fold_depth
  repeat k_memK
theorem c_check_sound (t : Tab n f) (s : Snd n f) : C_check_sound [.p (tabT n f)] = some (.p .non, [none]) := by
  refine Sp.eq ?_
  delta C_check_sound b_check_sound
  fold_depth
  repeat k_memK
  · rename_i h; cases h
  repeat k_memK
local macro_rules | `(tactic| k_caughtB) => `(tactic| with_reducible exact c_check_sound (by assumption) (by assumption))
variable {xs : List Nat}
theorem c_raw_part (hL : xs.length ≤ LIM) (h : ∀ x ∈ xs, x < n) : C_raw_part [.p (tabT n f), .p (natT xs)] = some (.p (subT f xs), [none, none]) := by
  refine Sp.eq ?_
  delta C_raw_part b_raw_part
  fold_depth
  repeat k_memK
  rename_i i hi j hj
  have := h i hi
  have := h j hj
  repeat k_memK
theorem c_raw_partL (hL : xs.length ≤ LIM) (h : ∀ x ∈ xs, x < n) : C_raw_part [.p (tabT n f), .l (xs.map fun (i : Nat) => .p (.int i))] = some (.p (subT f xs), [none, some (.l (xs.map fun (i : Nat) => .p (.int i)))]) := by
  refine Sp.eq ?_
  delta C_raw_part b_raw_part
  fold_depth
  repeat k_memK
  rename_i i hi j hj
  have := h i hi
  have := h j hj
  repeat k_memK
theorem c_are_all (p : Pm n xs) (h7 : n ≤ 7) : C_are_all [.p (natT xs), .p (.int n)] = some (.p (.bl true), [none, none]) := by
  refine Sp.eq ?_
  have hl := lim7 h7
  have hlen := p.len
  have hL : xs.length ≤ LIM := by omega
  delta C_are_all b_are_all
  fold_depth
  repeat k_memK
  · rename_i h
    exfalso
    simp [hlen] at h
    obtain ⟨x, hx, h⟩ := h
    have := p.lt x hx
    omega
  repeat k_memK
local macro_rules | `(tactic| k_caughtB) => `(tactic| with_reducible exact c_are_all (by assumption) (by assumption))
end
end CM

set_option Elab.async false
set_option linter.all false
set_option maxRecDepth 100000
set_option maxHeartbeats 0
namespace CM
open PF
local macro_rules | `(tactic| modx_arm) => `(tactic| first | (simp only [List.length_cons, List.length_nil]; exact Nat.le_of_ble_eq_true rfl) | assumption)
local macro_rules | `(tactic| top_argsB) => `(tactic| first | assumption | exact ok_tab | exact ok_row | exact ok_nat | (with_unfolding_all rfl))
local macro_rules | `(tactic| top_caughtB) => `(tactic| first | exact o_isiT rfl rfl | exact o_isiF rfl rfl)
local macro_rules | `(tactic| k_caught0) => `(tactic| first | assumption | omega | (rw [List.length_range]; first | assumption | omega) | (rw [List.length_range']; exact lim49 (by omega)))
local macro_rules | `(tactic| top_raiseB0) => `(tactic| first | exact own_rv | (dsimp only [PF.own, look, put, reduceIte, Bool.false_eq_true] <;> rfl))
local macro_rules | `(tactic| top_reprB) => `(tactic| first | (simp only [PF.bind, putAll, put, unpk, List.map, reduceIte, Bool.false_eq_true] <;> rfl) | rfl)
local macro_rules | `(tactic| top_strB) => `(tactic| (dsimp only [put, kill, Tg.own, putAll, List.map, back] <;> rfl))
local macro_rules | `(tactic| k_caughtN0) => `(tactic| first
  | exact src_one (.tup isSeq_row) | exact src_one (.tup isSeq_tab) | exact src_one (.tup isSeq_nat) | exact src_enumR (.tup isSeq_row) | exact src_enumR (.tup isSeq_tab)
  | exact src_zipR (.tup isSeq_row) (.tup isSeq_row) | exact src_zipR (.tup isSeq_tab) (.tup isSeq_tab)
  | exact src_one (.tup isSeq_map) | exact src_one (.lst isLst_map) | exact src_one (.live rfl rfl isLst_map)
  | (refine src_r1 rfl ?_; k_caught0) | (refine src_r2S rfl rfl ?_ ?_ <;> k_caught0) | (refine src_r2O rfl rfl ?_ <;> k_caught0) | (refine src_r2 rfl rfl ⟨?_, ?_⟩ ⟨?_, ?_⟩ <;> k_caught0)
  | (refine src_mat rfl rfl ?_; k_caught0) | exact src_enum (.tup isSeq_map) | exact src_zip (.tup isSeq_map) (.tup isSeq_map)
  | exact src_one (.tup isSeq_id))
local macro_rules | `(tactic| mod_arm) => `(tactic| first | assumption | (left; refine big_of ?_ ?_ <;> k_caught0) | (right; refine big_of ?_ ?_ <;> k_caught0))
local macro_rules | `(tactic| k_caughtNB) => `(tactic| first
  | (change V2 _ _ _ _ _; with_reducible first | refine v_eqI ?_ | refine v_add ?_ | refine v_sub ?_ | (refine v_mul ?_ ?_; (focus mod_arm)) | (refine v_mod ?_ ?_; (focus k_caught0)) | (refine v_fdiv ?_ ?_ ?_; (focus k_caught0); (focus k_caught0)) | refine v_neI ?_ | refine v_ltI ?_ | refine v_leI ?_ | refine v_gtI ?_ | refine v_geI ?_ | refine v_eqB ?_ | refine v_neB ?_ | refine v_isNN ?_ | refine v_isnNN ?_ | refine v_isI ?_ | refine v_isnI ?_ | refine v_isT ?_ | refine v_isnT ?_ | refine v_max2 ?_ | refine v_min2 ?_ | refine v_nin2 ?_ | refine v_in2 ?_ | (refine v_index ?_ ?_; (focus k_caught0)) | refine v_eqLi ?_ | refine v_nin_nat ?_ | refine v_in_nat ?_ | (refine v_cat1_nat ?_ ?_; (focus k_caught0)) | (refine v_cat_nat ?_ ?_; (focus k_caught0)) | (refine v_mul0 ?_ ?_; (focus k_caught0)) | (refine v_neS ?_ ?_; (focus top_argsB)) | (refine v_eqS ?_ ?_; (focus top_argsB)))
  | (change V2 _ _ _ _ _; first | refine v_isN rfl ?_ | refine v_isnN rfl ?_)
  | (change VI _ _ _ _; with_reducible first | (refine v_item_tab ?_ ?_; (focus k_caught0)) | (refine v_item_row ?_ ?_; (focus k_caught0)) | (refine v_item_at ?_ ?_; (focus k_caught0)) | refine v_fr0 ?_ | refine v_fr1 ?_ | refine v_it0 ?_ | refine v_it1 ?_ | refine v_it2 ?_ | (refine v_rowL ?_ ?_; (focus k_caught0)) | (refine v_itm ?_ ?_; (focus k_caught0)) | (refine v_itl ?_ ?_; (focus k_caught0)))
  | (change V1 _ _ _ _; with_reducible first | refine v_len_tab ?_ | refine v_len_row ?_ | refine v_len_nat ?_ | refine v_len_mat ?_ | refine v_len_rowL ?_ | refine v_len_map ?_ | refine v_len_lstM ?_ | refine v_len_lst ?_ | refine v_len_tup ?_ | refine v_all ?_ | refine v_any ?_ | refine v_sum ?_ | refine v_tuple_rowL ?_ | refine v_tuple_tab ?_ | refine v_tuple_nat ?_ | refine v_tuple_row ?_ | refine v_tuple_map ?_ | refine v_tuple_lst ?_ | refine v_list_row ?_ | refine v_list_nat ?_ | refine v_list_map ?_ | (refine v_lrng1 ?_ ?_ ?_; (focus k_caught0); (focus k_caught0)) | (refine v_trng1 ?_ ?_ ?_; (focus k_caught0); (focus k_caught0)) | (refine v_sortedP (by assumption) ?_) | refine v_abs ?_ | refine v_int ?_ | refine v_neg ?_)
  | (change V1 _ _ _ _; first | refine v_isiT rfl rfl ?_ | refine v_isiF rfl rfl ?_ | refine v_isi2 (by top_caughtB) (by top_caughtB) ?_))
local macro_rules | `(tactic| k_memK) => `(tactic| first
  | (change ∀ _, _; first | refine forall_range ?_ | refine forall_range' ?_ | intro _)
  | (change W _ _ _ _ _; first | refine W_nmP rfl ?_ | refine W_cst ?_ | refine W_op2 ?_ | refine W_op1 ?_ | (apply W_idxM rfl; (focus with_reducible rfl)) | refine W_idx ?_ | refine W_call rfl ?_ | refine W_nmL rfl rfl ?_ | (refine W_nmL rfl (hand_np ?_) ?_; (focus assumption)) | refine W_boP rfl ?_ | refine W_boL rfl rfl rfl ?_ | refine W_and ?_ | refine W_or ?_ | refine W_not ?_ | refine W_comp0 ?_ | refine W_comp1 ?_ | refine W_tup ?_ | refine W_lst ?_ | refine W_chain ?_ | refine W_op3 ?_ | refine W_mth ?_ | refine W_slc ?_)
  | (change WL _ _ _ _ _; first | refine WL_cons ?_ | refine WL_nil ?_)
  | k_caughtNB
  | (change WS _ _ _ _; first | refine WS_asg ?_ | refine WS_ret ?_ | refine WS_ite ?_ | refine WS_for ?_ | refine WS_exp ?_ | refine WS_asgD ?_ | refine WS_asgT ?_ | refine WS_asg1 ?_ | refine WS_asgM ?_ | refine WS_aug rfl ?_ | refine WS_app rfl ?_ | refine WS_ext rfl ?_ | refine WS_retN ?_ | refine WS_pass ?_ | with_reducible refine WS_nil ?_ | with_reducible refine WS_appC ?_ | with_reducible refine WS_appN ?_ | refine WS_brk ?_ | refine WS_cnt ?_)
  | refine K_2r ?_ | refine K_1r ?_ | refine K_1b ?_ | refine K_ir ?_ | refine K_1 rfl ?_ | refine K_2 rfl rfl ?_ | refine K_i rfl rfl ?_
  | (apply K_f; (focus k_caughtB); (focus top_strB)) | refine K_v rfl rfl ?_ | (apply K_w; (focus top_raiseB0)) | refine K_t rfl ?_ | (apply K_p; (focus top_strB))
  | with_reducible refine K_orT ?_ | with_reducible apply K_orF | with_reducible refine K_andF ?_ | with_reducible apply K_andT | apply K_and | apply K_or | apply K_c o_leI | apply K_c o_ltI | apply K_c o_geI | apply K_c o_gtI | apply K_c o_eqI
  | exact isB_ | exact isV_ | exact ans_ | exact K_ce o_leI | exact K_ce o_ltI | exact K_ce o_geI | exact K_ce o_gtI | exact K_ce o_eqI | refine K_fr rfl ?_ | refine K_fn rfl ?_
  | (apply K_m0; (focus top_strB); (focus k_caughtN0); (focus k_caught0)) | (apply K_m1; (focus top_strB); (focus k_caughtN0); (focus k_caught0))
  | (apply K_e; (focus top_reprB)) | (apply K_ec; (focus top_reprB)) | (apply K_n; (focus top_raiseB0); (focus rfl))
  | (refine K_lm ?_ ?_; (focus modx_arm)) | (apply K_tu; (focus (simp only [pures, Option.map_some] <;> rfl)); (focus modx_arm)) | refine K_oN ?_ | (apply K_oC; (focus top_raiseB0)) | refine K_3 rfl rfl rfl ?_ | (refine K_im rfl rfl ?_ ?_; (focus k_caught0)) | refine K_sn ?_ | refine K_s2 ?_ | refine K_s1 ?_ | (apply K_st2m rfl; (focus with_reducible rfl); (focus rfl); (focus rfl); (focus k_caught0); (focus k_caught0); (focus top_strB)) | (apply K_bb; (focus top_strB)) | refine K_ssC ?_ | refine K_ssN ?_
  | (apply K_ps; (focus top_strB)) | (apply K_u; (focus rfl)) | (apply K_ap rfl; (focus k_caught0); (focus top_strB)) | (apply K_ex rfl; (focus k_caught0); (focus top_strB)) | refine K_if rfl ?_ ?_
  | (apply K_nx; (focus top_strB)) | (apply K_ct; (focus top_strB)) | (apply K_bk; (focus top_strB)) | refine K_rt ?_ | (with_reducible apply K_b; (focus top_reprB)) | with_reducible rfl | refine And.intro rfl (And.intro rfl ?_) | refine K_mt rfl rfl rfl ?_ | refine K_sl1 rfl ?_)
local macro_rules | `(tactic| fold_depth) => `(tactic| (apply Sp_mk; (focus rfl); (focus (dsimp only [startS, List.map, List.length, Nat.zero_add, Nat.reduceAdd, Nat.reduceSub, List.replicate, List.cons_append, List.nil_append] <;> rfl)); (focus (simp only [stsO, stO, Tgt.st, Tg.own, List.flatMap_cons, List.flatMap_nil, List.append_nil, List.nil_append, List.cons_append] <;> rfl))))
local macro_rules | `(tactic| top_caught0) => `(tactic| first
  | (refine srcF_r1 rfl ?_; k_caught0) | (refine srcF_r2S rfl rfl ?_ ?_ <;> k_caught0) | (refine srcF_r2 rfl rfl ⟨?_, ?_⟩ ⟨?_, ?_⟩ <;> k_caught0)
  | exact srcF_one (.tup isSeq_row) | exact srcF_one (.tup isSeq_tab) | exact srcF_one (.tup isSeq_nat) | exact srcF_enumR (.tup isSeq_row) | exact srcF_enumR (.tup isSeq_tab)
  | exact srcF_zipR (.tup isSeq_row) (.tup isSeq_row) | exact srcF_zipR (.tup isSeq_tab) (.tup isSeq_tab)
  | exact srcF_one (.live rfl (fun _ h => by rw [h]; rfl) rfl isLst_map) | exact srcF_one (.lst isLst_map) | exact srcF_one (.tup isSeq_map) | exact srcF_one (.tup isSeq_id))
local macro_rules | `(tactic| top_raise0) => `(tactic| (apply K_foS; (focus top_strB); (focus top_caught0)))

local macro_rules | `(tactic| k_caughtB) => `(tactic| with_reducible exact c_is_sized)
local macro_rules | `(tactic| k_caughtB) => `(tactic| with_reducible exact sized_nat)
local macro_rules | `(tactic| k_caughtB) => `(tactic| with_reducible exact sized_tab)
local macro_rules | `(tactic| k_caughtB) => `(tactic| with_reducible exact sized_row)
local macro_rules | `(tactic| k_caughtB) => `(tactic| with_reducible exact c_is_within)
local macro_rules | `(tactic| k_caughtB) => `(tactic| with_reducible exact c_check_table (by assumption))
local macro_rules | `(tactic| k_caughtB) => `(tactic| with_reducible exact c_are_all (by assumption) (by assumption))
section
variable {n m : Nat} {f g : Nat → Nat → Int} {xs : List Nat}
theorem c_raw_renamed (p : Pm n xs) (h7 : n ≤ 7) : C_raw_renamed [.p (tabT n f), .p (natT xs)] = some (.p (tabT n fun a b => f (xs.idxOf a) (xs.idxOf b)), [none, none]) := by
  refine Sp.eq ?_
  have hl := lim7 h7
  have hlen := p.len
  delta C_raw_renamed b_raw_renamed
  fold_depth
  have e : ((List.range n).map fun k => D.p (.int (xs.idxOf k : Nat))) = ((List.range n).map fun k => xs.idxOf k).map fun (i : Nat) => D.p (.int i) := by simp
  iterate 7 k_memK
  rw [hlen]
  repeat k_memK
  · rename_i k hk
    have hm := p.mem hk
    repeat k_memK
  · rw [e]
    repeat k_memK
    refine K_f (c_raw_partL (by simpa using hl) fun x hx => ?_) (by dsimp only [back, put] <;> rfl) ?_
    · obtain ⟨k, hk, rfl⟩ := List.mem_map.mp hx
      exact p.idx k (List.mem_range.mp hk)
    · rw [subT_idx p]
      repeat k_memK
local macro_rules | `(tactic| k_caughtB) => `(tactic| with_reducible exact c_raw_renamed (by assumption) (by assumption))
theorem c_renamed (t : Tab n f) (p : Pm n xs) : C_renamed [.p (tabT n f), .p (natT xs)] = some (.p (tabT n fun a b => f (xs.idxOf a) (xs.idxOf b)), [none, none]) := by
  refine Sp.eq ?_
  have h7 := t.n7
  delta C_renamed b_renamed
  fold_depth
  repeat k_memK
  · rename_i h; cases h
  repeat k_memK
/-- rows grow -/
theorem grow_lim {n p : Nat} (h7 : n ≤ 7) (hp : p < n) {pre post : List (List Nat)} {row : List Nat} (hx : rowsN n p = pre ++ row :: post) : (pre.flatMap (ext n (cN p))).length + (ext n (cN p) row).length ≤ LIM := by
  have h1 := lvl_lim (c := cN) (p := p + 1) h7 h7 (by omega)
  have h2 : rowsN n (p + 1) = (pre ++ row :: post).flatMap (ext n (cN p)) := by rw [← hx]; rfl
  have h3 : (rowsN n (p + 1)).length = (pre.flatMap (ext n (cN p))).length + ((ext n (cN p) row).length + (post.flatMap (ext n (cN p))).length) := by
    rw [h2, List.flatMap_append, List.flatMap_cons, List.length_append, List.length_append]
  have h4 : (lvl n cN (p + 1)).length = (rowsN n (p + 1)).length := rfl
  omega
theorem row_lim {n p : Nat} (h7 : n ≤ 7) (hp : p < n) {row : List Nat} (h : row ∈ rowsN n p) : row.length + 1 ≤ LIM := by
  have := (lvl_len p row h).1
  have h5 : LIM = 16777216 := rfl
  omega
theorem c_all_rows (h7 : n ≤ 7) : C_all_rows [.l ((List.range n).map fun (i : Nat) => .p (.int i))] = some (.l ((rowsN n n).map encR), [some (.l ((List.range n).map fun (i : Nat) => .p (.int i)))]) := by
  refine Sp.eq ?_
  have hl := lim7 h7
  delta C_all_rows b_all_rows
  fold_depth
  repeat k_memK
  refine K_foR (n := n) (fun p ρ => ρ = [.val (.l ((List.range n).map fun (i : Nat) => .p (.int i))), .val (.l ((rowsN n p).map encR)), .no, .no, .no, .no]) (by dsimp only [kill, put] <;> rfl) (srcF_one (.live rfl (by rintro ρ0 ⟨i, rfl⟩; rfl) rfl isLst_map)) (by simp [rowsN, lvl, encR, natT]) ?_ ?_
  · rintro p ρ hp rfl
    refine K_b (by top_reprB) ?_
    repeat k_memK
    refine K_fo (xs := rowsN n p) (enc := encR) (fun pre ρ => ∃ s, ρ = [.val (.l ((List.range n).map fun (i : Nat) => .p (.int i))), .val (.l ((rowsN n p).map encR)), s, .val (.l ((pre.flatMap (ext n (cN p))).map encR)), .no, .no]) (by dsimp only [kill, put] <;> rfl) (srcF_one (.live rfl (by rintro ρ0 ⟨i, s, rfl⟩; rfl) rfl isLst_map)) ⟨_, rfl⟩ ?_ ?_
    · rintro pre row post ρ hx ⟨s, rfl⟩
      have hL := grow_lim h7 hp hx
      have hr := row_lim h7 hp (row := row) (by rw [hx]; simp)
      refine K_b (by top_reprB) ?_
      repeat k_memK
      refine K_ex rfl (by rw [ext, List.length_map] at hL; rw [List.length_map, List.length_map]; exact hL) (by dsimp only [put] <;> rfl) ?_
      repeat k_memK
      refine ⟨s, ?_⟩
      simp only [List.flatMap_append, List.map_append, List.flatMap_singleton, List.flatMap_cons, List.flatMap_nil, List.append_nil]
      unfold ext
      rw [List.map_map]
      rfl
    · rintro ρ ⟨s, rfl⟩
      repeat k_memK
      rfl
  · rintro ρ rfl
    repeat k_memK
end
end CM

set_option Elab.async false
set_option linter.all false
set_option maxRecDepth 100000
set_option maxHeartbeats 0
namespace CM
open PF
-- _law_hand ['script', 'cells', 'cell']
def b__law_hand : List PF.St := [.asg 1 (.comp (.op .abs [(.op .int [(.nm 2)])]) (.one 2) 0 [(.op (.slice false true) [(.nm 0), (.cst (.int 63))])] []), .ret (.lst [(.nm 1), (.cst (.int 0)), (.cst (.int 0)), (.op .add [(.cst (.int 61)), (.op .mul [(.cst (.int 7)), (.op .len [(.nm 1)])])]), (.cst (.int 0))])]
def C__law_hand : CT := mk [] 3 1 b__law_hand
-- _law_draw ['hand', 'many', 'number', 'cell', 'digit']
def b__law_draw : List PF.St := [.ite (.and_ (.op .eq [(.idx (.nm 0) (.cst (.int 2))), (.cst (.int 0))]) (.op .lt [(.idx (.nm 0) (.cst (.int 1))), (.op .len [(.idx (.nm 0) (.cst (.int 0)))])])) [.asg 3 (.idx (.idx (.nm 0) (.cst (.int 0))) (.idx (.nm 0) (.cst (.int 1)))), .asg1 (.s1 0 (.cst (.int 1))) (.op .add [(.idx (.nm 0) (.cst (.int 1))), (.cst (.int 1))]), .asg1 (.s1 0 (.cst (.int 3))) (.op .mod [(.op .int [(.op .add [(.op .add [(.op .mul [(.idx (.nm 0) (.cst (.int 3))), (.cst (.int 69621))]), (.op .mul [(.nm 3), (.cst (.int 40692))])]), (.cst (.int 31))])]), (.cst (.int 2147483629))]), .ite (.op .ge [(.nm 3), (.op .pow [(.cst (.int 10)), (.cst (.int 18))])]) [.asg1 (.s1 0 (.cst (.int 2))) (.nm 3)] []] [], .ite (.op .gt [(.idx (.nm 0) (.cst (.int 2))), (.cst (.int 0))]) [.asg 4 (.op .mod [(.op .int [(.idx (.nm 0) (.cst (.int 2)))]), (.nm 1)]), .asg1 (.s1 0 (.cst (.int 2))) (.op .fdiv [(.idx (.nm 0) (.cst (.int 2))), (.nm 1)]), .ret (.nm 4)] [], .asg1 (.s1 0 (.cst (.int 4))) (.op .add [(.idx (.nm 0) (.cst (.int 4))), (.cst (.int 1))]), .asg 2 (.op .mod [(.op .int [(.op .mul [(.op .int [(.op .add [(.idx (.nm 0) (.cst (.int 3))), (.op .mul [(.cst (.int 7919)), (.idx (.nm 0) (.cst (.int 4)))])])]), (.cst (.int 48271))])]), (.cst (.int 2147483647))]), .asg 2 (.op .mod [(.op .int [(.op .mul [(.nm 2), (.op .add [(.op .fdiv [(.nm 2), (.cst (.int 1009))]), (.cst (.int 69621))])])]), (.cst (.int 2147483647))]), .asg 2 (.op .mod [(.op .int [(.op .mul [(.nm 2), (.op .add [(.op .fdiv [(.nm 2), (.cst (.int 2003))]), (.cst (.int 40014))])])]), (.cst (.int 2147483563))]), .ret (.op .mod [(.op .int [(.op .fdiv [(.nm 2), (.cst (.int 16))])]), (.nm 1)])]
def C__law_draw : CT := mk [] 5 2 b__law_draw
section
variable {cells : List Int} {a : Nat} {b c e m : Int} {ρ : List S} {q : Bool}
theorem h0 : ev [] q (.idx (.nm 0) (.cst (.int 0))) (.val (hs cells a b c e) :: ρ) = some (.bv (.l (cells.map fun i => .p (.int i))), .val (hs cells a b c e) :: ρ) := by
  simp [ev_1, ev_2, ev_3, ev_4, ev_5, ev_6, ev_7, ev_8, ev_9, ev_10, ev_11, ev_12, ev_13, ev_15, evL_1, evL_2, ownL, evT_1, evT_2, evOwn_1, evTest_1, look, hs, valR, L2.atI, L2.ixN]
theorem h1 : ev [] q (.idx (.nm 0) (.cst (.int 1))) (.val (hs cells a b c e) :: ρ) = some (.rv (.p (.int a)), .val (hs cells a b c e) :: ρ) := by
  simp [ev_1, ev_2, ev_3, ev_4, ev_5, ev_6, ev_7, ev_8, ev_9, ev_10, ev_11, ev_12, ev_13, ev_15, evL_1, evL_2, ownL, evT_1, evT_2, evOwn_1, evTest_1, look, hs, valR, L2.atI, L2.ixN]
theorem h2 : ev [] q (.idx (.nm 0) (.cst (.int 2))) (.val (hs cells a b c e) :: ρ) = some (.rv (.p (.int b)), .val (hs cells a b c e) :: ρ) := by
  simp [ev_1, ev_2, ev_3, ev_4, ev_5, ev_6, ev_7, ev_8, ev_9, ev_10, ev_11, ev_12, ev_13, ev_15, evL_1, evL_2, ownL, evT_1, evT_2, evOwn_1, evTest_1, look, hs, valR, L2.atI, L2.ixN]
theorem h3 : ev [] q (.idx (.nm 0) (.cst (.int 3))) (.val (hs cells a b c e) :: ρ) = some (.rv (.p (.int c)), .val (hs cells a b c e) :: ρ) := by
  simp [ev_1, ev_2, ev_3, ev_4, ev_5, ev_6, ev_7, ev_8, ev_9, ev_10, ev_11, ev_12, ev_13, ev_15, evL_1, evL_2, ownL, evT_1, evT_2, evOwn_1, evTest_1, look, hs, valR, L2.atI, L2.ixN]
theorem h4 : ev [] q (.idx (.nm 0) (.cst (.int 4))) (.val (hs cells a b c e) :: ρ) = some (.rv (.p (.int e)), .val (hs cells a b c e) :: ρ) := by
  simp [ev_1, ev_2, ev_3, ev_4, ev_5, ev_6, ev_7, ev_8, ev_9, ev_10, ev_11, ev_12, ev_13, ev_15, evL_1, evL_2, ownL, evT_1, evT_2, evOwn_1, evTest_1, look, hs, valR, L2.atI, L2.ixN]
theorem p1 {x : Nat} : store [] (.p (.int x)) (.val (hs cells a b c e) :: ρ) (.s1 0 (.cst (.int 1))) = some (.val (hs cells x b c e) :: ρ) := by
  simp [store, ev_1, ev_2, ev_3, ev_4, ev_5, ev_6, ev_7, ev_8, ev_9, ev_10, ev_11, ev_12, ev_13, ev_15, evL_1, evL_2, ownL, evT_1, evT_2, evOwn_1, evTest_1, look, hs, valR, L2.ixN, put]
theorem p2 {x : Int} : store [] (.p (.int x)) (.val (hs cells a b c e) :: ρ) (.s1 0 (.cst (.int 2))) = some (.val (hs cells a x c e) :: ρ) := by
  simp [store, ev_1, ev_2, ev_3, ev_4, ev_5, ev_6, ev_7, ev_8, ev_9, ev_10, ev_11, ev_12, ev_13, ev_15, evL_1, evL_2, ownL, evT_1, evT_2, evOwn_1, evTest_1, look, hs, valR, L2.ixN, put]
theorem p3 {x : Int} : store [] (.p (.int x)) (.val (hs cells a b c e) :: ρ) (.s1 0 (.cst (.int 3))) = some (.val (hs cells a b x e) :: ρ) := by
  simp [store, ev_1, ev_2, ev_3, ev_4, ev_5, ev_6, ev_7, ev_8, ev_9, ev_10, ev_11, ev_12, ev_13, ev_15, evL_1, evL_2, ownL, evT_1, evT_2, evOwn_1, evTest_1, look, hs, valR, L2.ixN, put]
theorem p4 {x : Int} : store [] (.p (.int x)) (.val (hs cells a b c e) :: ρ) (.s1 0 (.cst (.int 4))) = some (.val (hs cells a b c x) :: ρ) := by
  simp [store, ev_1, ev_2, ev_3, ev_4, ev_5, ev_6, ev_7, ev_8, ev_9, ev_10, ev_11, ev_12, ev_13, ev_15, evL_1, evL_2, ownL, evT_1, evT_2, evOwn_1, evTest_1, look, hs, valR, L2.ixN, put]
theorem hcell (h : a < cells.length) : ev [] false (.idx (.idx (.nm 0) (.cst (.int 0))) (.idx (.nm 0) (.cst (.int 1)))) (.val (hs cells a b c e) :: ρ) = some (.rv (.p (.int (cells[a]?.getD 0))), .val (hs cells a b c e) :: ρ) := by
  rw [ev_4, h0]
  simp only [h1, valR]
  have := atI_nat (xs := cells.map fun i => D.p (.int i)) (i := a) (by simpa using h)
  simp [this, h]
theorem run_asg1 {Γ : List CT} {t : Tgt} {e : Ex} {ρ ρ1 ρ2 : List S} {d : D} (h : evOwn Γ e ρ = some (d, ρ1)) (h2 : store Γ d ρ1 t = some ρ2) : PF.run Γ (.asg1 t e) ρ = some (.nx ρ2) := by
  rw [run_3, h]; simp [h2]
/-- the first step of a draw -/
theorem draw_a {s2 s3 s4 : S} : ∃ a' b' c' s3', PF.run [] (.ite (.and_ (.op .eq [(.idx (.nm 0) (.cst (.int 2))), (.cst (.int 0))]) (.op .lt [(.idx (.nm 0) (.cst (.int 1))), (.op .len [(.idx (.nm 0) (.cst (.int 0)))])])) [.asg 3 (.idx (.idx (.nm 0) (.cst (.int 0))) (.idx (.nm 0) (.cst (.int 1)))), .asg1 (.s1 0 (.cst (.int 1))) (.op .add [(.idx (.nm 0) (.cst (.int 1))), (.cst (.int 1))]), .asg1 (.s1 0 (.cst (.int 3))) (.op .mod [(.op .int [(.op .add [(.op .add [(.op .mul [(.idx (.nm 0) (.cst (.int 3))), (.cst (.int 69621))]), (.op .mul [(.nm 3), (.cst (.int 40692))])]), (.cst (.int 31))])]), (.cst (.int 2147483629))]), .ite (.op .ge [(.nm 3), (.op .pow [(.cst (.int 10)), (.cst (.int 18))])]) [.asg1 (.s1 0 (.cst (.int 2))) (.nm 3)] []] [])
    [.val (hs cells a b c e), .val (.p (.int m)), s2, s3, s4] = some (.nx [.val (hs cells a' b' c' e), .val (.p (.int m)), s2, s3', s4]) := by
  have c1 : ev [] false (.op .eq [(.idx (.nm 0) (.cst (.int 2))), (.cst (.int 0))]) [.val (hs cells a b c e), .val (.p (.int m)), s2, s3, s4] = some (.rv (.p (.bl (decide (b = 0)))), [.val (hs cells a b c e), .val (.p (.int m)), s2, s3, s4]) :=
    e_bin h2 e_cst (by simp [opD, eqOp, eqD, okT, eqT, B, beq_dec])
  have c2 : ev [] false (.op .lt [(.idx (.nm 0) (.cst (.int 1))), (.op .len [(.idx (.nm 0) (.cst (.int 0)))])]) [.val (hs cells a b c e), .val (.p (.int m)), s2, s3, s4] = some (.rv (.p (.bl (decide (a < cells.length)))), [.val (hs cells a b c e), .val (.p (.int m)), s2, s3, s4]) :=
    e_bin h1 (e_un_bv h0 (o := .len) (d := .p (.int cells.length)) (by simp [opD, lenD, I])) (by simp [opD, cmpD, B])
  by_cases hb : b = 0
  · by_cases ha : a < cells.length
    · simp only [hb, ha, decide_true] at c1 c2
      subst hb
      generalize hcl : cells[a]?.getD 0 = cl
      have e1 : ev [] false (.op .mod [(.op .int [(.op .add [(.op .add [(.op .mul [(.idx (.nm 0) (.cst (.int 3))), (.cst (.int 69621))]), (.op .mul [(.nm 3), (.cst (.int 40692))])]), (.cst (.int 31))])]), (.cst (.int 2147483629))]) [.val (hs cells (a + 1) 0 c e), .val (.p (.int m)), s2, .val (.p (.int cl)), s4] = some (.rv (.p (.int ((c * 69621 + cl * 40692 + 31) % 2147483629))), [.val (hs cells (a + 1) 0 c e), .val (.p (.int m)), s2, .val (.p (.int cl)), s4]) :=
        e_bin (e_un (e_bin (e_bin (e_bin h3 e_cst (x := .p (.int c)) (y := .p (.int 69621)) (d := .p (.int (c * 69621))) (by simp [opD, mulD, big64, I])) (e_bin (e_nm rfl) e_cst (x := .p (.int cl)) (y := .p (.int 40692)) (d := .p (.int (cl * 40692))) (by simp [opD, mulD, big64, I])) (d := .p (.int (c * 69621 + cl * 40692))) rfl) e_cst (d := .p (.int (c * 69621 + cl * 40692 + 31))) rfl) (d := .p (.int (c * 69621 + cl * 40692 + 31))) rfl) e_cst (by simp [opD, modD, I])
      have e2 : ∀ c', ev [] false (.op .ge [(.nm 3), (.op .pow [(.cst (.int 10)), (.cst (.int 18))])]) [.val (hs cells (a + 1) 0 c' e), .val (.p (.int m)), s2, .val (.p (.int cl)), s4] = some (.rv (.p (.bl (decide (10 ^ 18 ≤ cl)))), [.val (hs cells (a + 1) 0 c' e), .val (.p (.int m)), s2, .val (.p (.int cl)), s4]) := fun c' =>
        e_bin (e_nm rfl) (e_bin e_cst e_cst (x := .p (.int 10)) (y := .p (.int 18)) (d := .p (.int (10 ^ 18))) (by simp [opD, powD, powC, I])) (x := .p (.int cl)) rfl
      have e3 : ev [] false (.op .add [(.idx (.nm 0) (.cst (.int 1))), (.cst (.int 1))]) [.val (hs cells a 0 c e), .val (.p (.int m)), s2, .val (.p (.int cl)), s4] = some (.rv (.p (.int (a + 1 : Nat))), [.val (hs cells a 0 c e), .val (.p (.int m)), s2, .val (.p (.int cl)), s4]) := e_bin h1 e_cst (by simp [opD, addD, I])
      have e0 := hcell (b := 0) (c := c) (e := e) (ρ := [.val (.p (.int m)), s2, s3, s4]) ha
      rw [hcl] at e0
      by_cases hg : (10 : Int) ^ 18 ≤ cl
      · simp only [hg, decide_true] at e2
        exact ⟨a + 1, cl, _, _, run_ite_t (t_rv (e_andt c1 c2)) (runs_nx (r_asg e0) (runs_nx (run_asg1 (o_rv e3) p1) (runs_nx (run_asg1 (o_rv e1) p3) (runs_one (run_ite_t (t_rv (e2 _)) (runs_one (run_asg1 (o_rv (e_nm rfl)) p2)))))))⟩
      · simp only [hg, decide_false] at e2
        exact ⟨a + 1, 0, _, _, run_ite_t (t_rv (e_andt c1 c2)) (runs_nx (r_asg e0) (runs_nx (run_asg1 (o_rv e3) p1) (runs_nx (run_asg1 (o_rv e1) p3) (runs_one (run_ite_f (t_rv (e2 _)) runs_0)))))⟩
    · simp only [ha, decide_false] at c2
      simp only [hb, decide_true] at c1
      subst hb
      exact ⟨a, 0, c, s3, run_ite_f (t_rv (e_andt c1 c2)) runs_0⟩
  · simp only [hb, decide_false] at c1
    exact ⟨a, b, c, s3, run_ite_f (t_rv (e_andf c1)) runs_0⟩
/-- the draw from a big number -/
theorem draw_b {s2 s3 s4 : S} (hm : 0 < m) (hm2 : m.natAbs.log2 < 9000) (hb : 0 < b) : runs [] [.ite (.op .gt [(.idx (.nm 0) (.cst (.int 2))), (.cst (.int 0))]) [.asg 4 (.op .mod [(.op .int [(.idx (.nm 0) (.cst (.int 2)))]), (.nm 1)]), .asg1 (.s1 0 (.cst (.int 2))) (.op .fdiv [(.idx (.nm 0) (.cst (.int 2))), (.nm 1)]), .ret (.nm 4)] [], .asg1 (.s1 0 (.cst (.int 4))) (.op .add [(.idx (.nm 0) (.cst (.int 4))), (.cst (.int 1))]), .asg 2 (.op .mod [(.op .int [(.op .mul [(.op .int [(.op .add [(.idx (.nm 0) (.cst (.int 3))), (.op .mul [(.cst (.int 7919)), (.idx (.nm 0) (.cst (.int 4)))])])]), (.cst (.int 48271))])]), (.cst (.int 2147483647))]), .asg 2 (.op .mod [(.op .int [(.op .mul [(.nm 2), (.op .add [(.op .fdiv [(.nm 2), (.cst (.int 1009))]), (.cst (.int 69621))])])]), (.cst (.int 2147483647))]), .asg 2 (.op .mod [(.op .int [(.op .mul [(.nm 2), (.op .add [(.op .fdiv [(.nm 2), (.cst (.int 2003))]), (.cst (.int 40014))])])]), (.cst (.int 2147483563))]), .ret (.op .mod [(.op .int [(.op .fdiv [(.nm 2), (.cst (.int 16))])]), (.nm 1)])]
    [.val (hs cells a b c e), .val (.p (.int m)), s2, s3, s4] = some (.rt (.p (.int (b % m))) [.val (hs cells a (b / m) c e), .val (.p (.int m)), s2, s3, .val (.p (.int (b % m)))]) := by
  have c1 : ev [] false (.op .gt [(.idx (.nm 0) (.cst (.int 2))), (.cst (.int 0))]) [.val (hs cells a b c e), .val (.p (.int m)), s2, s3, s4] = some (.rv (.p (.bl true)), [.val (hs cells a b c e), .val (.p (.int m)), s2, s3, s4]) :=
    e_bin h2 e_cst (by simp [opD, cmpD, B, hb])
  have c2 : ev [] false (.op .mod [(.op .int [(.idx (.nm 0) (.cst (.int 2)))]), (.nm 1)]) [.val (hs cells a b c e), .val (.p (.int m)), s2, s3, s4] = some (.rv (.p (.int (b % m))), [.val (hs cells a b c e), .val (.p (.int m)), s2, s3, s4]) :=
    e_bin (e_un h2 (d := .p (.int b)) rfl) (e_nm rfl) (by simp [opD, modD, I, hm])
  have c3 : ev [] false (.op .fdiv [(.idx (.nm 0) (.cst (.int 2))), (.nm 1)]) [.val (hs cells a b c e), .val (.p (.int m)), s2, s3, .val (.p (.int (b % m)))] = some (.rv (.p (.int (b / m))), [.val (hs cells a b c e), .val (.p (.int m)), s2, s3, .val (.p (.int (b % m)))]) :=
    e_bin h2 (e_nm rfl) (by simp [opD, fdivD, I, hm, hm2])
  exact runs_rt (run_ite_t (t_rv c1) (runs_nx (r_asg c2) (runs_nx (run_asg1 (o_rv c3) p2) (runs_rt (r_ret (e_nm rfl))))))
theorem big_lt {x y : Int} (h : 0 ≤ x) (h2 : x < 2147483648) : mulD [.p (.int x), .p (.int y)] = some (.p (.int (x * y))) := by
  have : big64 x = true := by simp [big64]; omega
  simp [mulD, this, I]
theorem draw_c {s2 s3 s4 : S} (hm : 0 < m) (hb : ¬ 0 < b) : ∃ r x s2', (0 ≤ r ∧ r < m) ∧ runs [] [.ite (.op .gt [(.idx (.nm 0) (.cst (.int 2))), (.cst (.int 0))]) [.asg 4 (.op .mod [(.op .int [(.idx (.nm 0) (.cst (.int 2)))]), (.nm 1)]), .asg1 (.s1 0 (.cst (.int 2))) (.op .fdiv [(.idx (.nm 0) (.cst (.int 2))), (.nm 1)]), .ret (.nm 4)] [], .asg1 (.s1 0 (.cst (.int 4))) (.op .add [(.idx (.nm 0) (.cst (.int 4))), (.cst (.int 1))]), .asg 2 (.op .mod [(.op .int [(.op .mul [(.op .int [(.op .add [(.idx (.nm 0) (.cst (.int 3))), (.op .mul [(.cst (.int 7919)), (.idx (.nm 0) (.cst (.int 4)))])])]), (.cst (.int 48271))])]), (.cst (.int 2147483647))]), .asg 2 (.op .mod [(.op .int [(.op .mul [(.nm 2), (.op .add [(.op .fdiv [(.nm 2), (.cst (.int 1009))]), (.cst (.int 69621))])])]), (.cst (.int 2147483647))]), .asg 2 (.op .mod [(.op .int [(.op .mul [(.nm 2), (.op .add [(.op .fdiv [(.nm 2), (.cst (.int 2003))]), (.cst (.int 40014))])])]), (.cst (.int 2147483563))]), .ret (.op .mod [(.op .int [(.op .fdiv [(.nm 2), (.cst (.int 16))])]), (.nm 1)])]
    [.val (hs cells a b c e), .val (.p (.int m)), s2, s3, s4] = some (.rt (.p (.int r)) [.val (hs cells a b c x), .val (.p (.int m)), s2', s3, s4]) := by
  have c1 : ev [] false (.op .gt [(.idx (.nm 0) (.cst (.int 2))), (.cst (.int 0))]) [.val (hs cells a b c e), .val (.p (.int m)), s2, s3, s4] = some (.rv (.p (.bl false)), [.val (hs cells a b c e), .val (.p (.int m)), s2, s3, s4]) :=
    e_bin h2 e_cst (by simp [opD, cmpD, B]; omega)
  have c2 : ev [] false (.op .add [(.idx (.nm 0) (.cst (.int 4))), (.cst (.int 1))]) [.val (hs cells a b c e), .val (.p (.int m)), s2, s3, s4] = some (.rv (.p (.int (e + 1))), [.val (hs cells a b c e), .val (.p (.int m)), s2, s3, s4]) := e_bin h4 e_cst rfl
  generalize e + 1 = e1 at c2
  have c3 : ev [] false (.op .mod [(.op .int [(.op .mul [(.op .int [(.op .add [(.idx (.nm 0) (.cst (.int 3))), (.op .mul [(.cst (.int 7919)), (.idx (.nm 0) (.cst (.int 4)))])])]), (.cst (.int 48271))])]), (.cst (.int 2147483647))]) [.val (hs cells a b c e1), .val (.p (.int m)), s2, s3, s4] = some (.rv (.p (.int ((c + 7919 * e1) * 48271 % 2147483647))), [.val (hs cells a b c e1), .val (.p (.int m)), s2, s3, s4]) :=
    e_bin (e_un (e_bin (e_un (e_bin h3 (e_bin e_cst h4 (d := .p (.int (7919 * e1))) (by simp [opD, mulD, big64, I])) (d := .p (.int (c + 7919 * e1))) rfl) (d := .p (.int (c + 7919 * e1))) rfl) e_cst (d := .p (.int ((c + 7919 * e1) * 48271))) (by simp [opD, mulD, big64, I])) (d := .p (.int ((c + 7919 * e1) * 48271))) rfl) e_cst (by simp [opD, modD, I])
  have b1 := Int.emod_nonneg ((c + 7919 * e1) * 48271) (show (2147483647 : Int) ≠ 0 by decide)
  have b2 := Int.emod_lt_of_pos ((c + 7919 * e1) * 48271) (show (0 : Int) < 2147483647 by decide)
  generalize (c + 7919 * e1) * 48271 % 2147483647 = v at c3 b1 b2
  have c4 : ev [] false (.op .mod [(.op .int [(.op .mul [(.nm 2), (.op .add [(.op .fdiv [(.nm 2), (.cst (.int 1009))]), (.cst (.int 69621))])])]), (.cst (.int 2147483647))]) [.val (hs cells a b c e1), .val (.p (.int m)), .val (.p (.int v)), s3, s4] = some (.rv (.p (.int (v * (v / 1009 + 69621) % 2147483647))), [.val (hs cells a b c e1), .val (.p (.int m)), .val (.p (.int v)), s3, s4]) :=
    e_bin (e_un (e_bin (e_nm rfl) (e_bin (e_bin (e_nm rfl) e_cst (x := .p (.int v)) (d := .p (.int (v / 1009))) (by simp [opD, fdivD, I]; decide)) e_cst (d := .p (.int (v / 1009 + 69621))) rfl) (x := .p (.int v)) (d := .p (.int (v * (v / 1009 + 69621)))) (big_lt b1 (by omega))) (d := .p (.int (v * (v / 1009 + 69621)))) rfl) e_cst (by simp [opD, modD, I])
  have b3 := Int.emod_nonneg (v * (v / 1009 + 69621)) (show (2147483647 : Int) ≠ 0 by decide)
  have b4 := Int.emod_lt_of_pos (v * (v / 1009 + 69621)) (show (0 : Int) < 2147483647 by decide)
  generalize v * (v / 1009 + 69621) % 2147483647 = w at c4 b3 b4
  have c5 : ev [] false (.op .mod [(.op .int [(.op .mul [(.nm 2), (.op .add [(.op .fdiv [(.nm 2), (.cst (.int 2003))]), (.cst (.int 40014))])])]), (.cst (.int 2147483563))]) [.val (hs cells a b c e1), .val (.p (.int m)), .val (.p (.int w)), s3, s4] = some (.rv (.p (.int (w * (w / 2003 + 40014) % 2147483563))), [.val (hs cells a b c e1), .val (.p (.int m)), .val (.p (.int w)), s3, s4]) :=
    e_bin (e_un (e_bin (e_nm rfl) (e_bin (e_bin (e_nm rfl) e_cst (x := .p (.int w)) (d := .p (.int (w / 2003))) (by simp [opD, fdivD, I]; decide)) e_cst (d := .p (.int (w / 2003 + 40014))) rfl) (x := .p (.int w)) (d := .p (.int (w * (w / 2003 + 40014)))) (big_lt b3 (by omega))) (d := .p (.int (w * (w / 2003 + 40014)))) rfl) e_cst (by simp [opD, modD, I])
  generalize w * (w / 2003 + 40014) % 2147483563 = u at c5
  have c6 : ev [] false (.op .mod [(.op .int [(.op .fdiv [(.nm 2), (.cst (.int 16))])]), (.nm 1)]) [.val (hs cells a b c e1), .val (.p (.int m)), .val (.p (.int u)), s3, s4] = some (.rv (.p (.int (u / 16 % m))), [.val (hs cells a b c e1), .val (.p (.int m)), .val (.p (.int u)), s3, s4]) :=
    e_bin (e_un (e_bin (e_nm rfl) e_cst (x := .p (.int u)) (d := .p (.int (u / 16))) (by simp [opD, fdivD, I]; decide)) (d := .p (.int (u / 16))) rfl) (e_nm rfl) (by simp [opD, modD, I, hm])
  exact ⟨_, e1, _, ⟨Int.emod_nonneg _ (by omega), Int.emod_lt_of_pos _ hm⟩, runs_nx (run_ite_f (t_rv c1) runs_0) (runs_nx (run_asg1 (o_rv c2) p4) (runs_nx (r_asg c3) (runs_nx (r_asg c4) (runs_nx (r_asg c5) (runs_rt (r_ret c6))))))⟩
end
theorem c_draw {h : D} (hh : IsHand h) {m : Int} (hm : 0 < m) (hm2 : m.natAbs.log2 < 9000) : ∃ r h', C__law_draw [h, .p (.int m)] = some (.p (.int r), [some h', none]) ∧ (0 ≤ r ∧ r < m) ∧ IsHand h' := by
  obtain ⟨cells, a, b, c, e, rfl⟩ := hh
  obtain ⟨a', b', c', s3', h1⟩ := draw_a (cells := cells) (a := a) (b := b) (c := c) (e := e) (m := m) (s2 := .no) (s3 := .no) (s4 := .no)
  by_cases hb : 0 < b'
  · exact ⟨_, _, mk_rt (ρ0 := [.val (hs cells a b c e), .val (.p (.int m)), .no, .no, .no]) rfl rfl (runs_nx h1 (draw_b hm hm2 hb)) rfl rfl, ⟨Int.emod_nonneg _ (by omega), Int.emod_lt_of_pos _ hm⟩, _, _, _, _, _, rfl⟩
  · obtain ⟨r, x, s2', h2, h3⟩ := draw_c (cells := cells) (a := a') (b := b') (c := c') (e := e) (m := m) (s2 := .no) (s3 := s3') (s4 := .no) hm hb
    exact ⟨r, _, mk_rt (ρ0 := [.val (hs cells a b c e), .val (.p (.int m)), .no, .no, .no]) rfl rfl (runs_nx h1 h3) rfl rfl, h2, _, _, _, _, _, rfl⟩
theorem cut63 (ns : List Int) : ∃ cs : List Int, PF.cutT (ns.map T.int) none (some 63) = cs.map T.int ∧ cs.length ≤ ns.length := by
  refine ⟨((ns.drop _).take _), by unfold PF.cutT; rw [← List.map_drop, ← List.map_take], ?_⟩
  simp only [List.length_take, List.length_drop]
  omega
theorem c__law_hand {ns : List Int} (hn : ns.length ≤ 63) : ∃ h, C__law_hand [ro ns] = some (h, [some (ro ns)]) ∧ IsHand h := by
  obtain ⟨cs, hc, hl⟩ := cut63 ns
  have e1 : ev [] false (.comp (.op .abs [(.op .int [(.nm 2)])]) (.one 2) 0 [(.op (.slice false true) [(.nm 0), (.cst (.int 63))])] []) [.val (ro ns), .no, .no] = some (.rv (.l (cs.map fun x => .p (.int (if x < 0 then -x else x)))), [.val (ro ns), .no, .no]) := by
    refine ev_compN cs (fun x => .p (.int x)) _ (w := .one (.fix (cs.map T.int))) (by simp [itemsW]) rfl (rs := [.rv (L (cs.map T.int))]) (ρ1 := [.val (ro ns), .no, .no]) ?_ (by simp only [srcK, sqOf, L, pures_map, Option.map_some]) (Nat.le_trans (by omega) (show 63 ≤ LIM from Nat.le_of_ble_eq_true rfl)) rfl fun x hx => ⟨_, rfl, rfl, ?_⟩
    · simp [ev_1, ev_2, ev_3, ev_4, ev_5, ev_6, ev_7, ev_8, ev_9, ev_10, ev_11, ev_12, ev_13, ev_15, evL_1, evL_2, ownL, evT_1, evT_2, evOwn_1, evTest_1, look, ro, vals, valR, opD, sliceD, sliceV, items, hc]
    · exact e_un (e_un (e_nm rfl) (d := .p (.int x)) rfl) rfl
  have e2 : ev [] false (.lst [(.nm 1), (.cst (.int 0)), (.cst (.int 0)), (.op .add [(.cst (.int 61)), (.op .mul [(.cst (.int 7)), (.op .len [(.nm 1)])])]), (.cst (.int 0))]) [.val (ro ns), .val (.l (cs.map fun x => .p (.int (if x < 0 then -x else x)))), .no] = some (.rv (hs (cs.map fun x => if x < 0 then -x else x) 0 0 (61 + 7 * cs.length) 0), [.val (ro ns), .no, .no]) := by
    have h5 : 5 ≤ LIM := Nat.le_of_ble_eq_true rfl
    have hm : mulD [.p (.int 7), .p (.int cs.length)] = some (.p (.int (7 * cs.length))) := big_lt (by decide) (by decide)
    have ha : ev [] false (.op .add [(.cst (.int 61)), (.op .mul [(.cst (.int 7)), (.op .len [(.nm 1)])])]) [.val (ro ns), .val (.l (cs.map fun x => .p (.int (if x < 0 then -x else x)))), .no] = some (.rv (.p (.int (61 + 7 * cs.length))), [.val (ro ns), .val (.l (cs.map fun x => .p (.int (if x < 0 then -x else x)))), .no]) :=
      e_bin e_cst (e_bin e_cst (e_un_nm (e_nml rfl) rfl (d := .p (.int cs.length)) (by simp [opD, lenD, I])) hm) rfl
    have hL := a_nm (e_nml (i := 1) (Γ := []) (q := false) (ρ := [.val (ro ns), .val (.l (cs.map fun x => .p (.int (if x < 0 then -x else x)))), .no]) rfl) (a_rv (e_cst (t := .int 0)) (a_rv (e_cst (t := .int 0)) (a_rv ha (a_rv (e_cst (t := .int 0)) a_nil))))
    rw [show ev [] false (.lst _) _ = _ from ev_8 .., hL]
    simp [ownL, PF.own, look, put, h5, hs]
  exact ⟨_, mk_rt (ρ0 := [.val (ro ns), .no, .no]) rfl rfl (runs_nx (r_asg e1) (runs_rt (r_ret e2))) rfl rfl, _, _, _, _, _, rfl⟩
theorem k_draw {h : D} {m : Int} {q : Bool} {rs : List R} {ρ : List S} {Q : R → List S → Prop} (hh : IsHand h) (hm : 0 < m) (hm2 : m < 2 ^ 60) (f : ∀ r h', IsHand h' → 0 ≤ r → r < m → KBk rs [some h', none] ρ fun ρ2 => Q (.rv (.p (.int r))) ρ2) : KF C__law_draw q rs [h, .p (.int m)] ρ Q := by
  obtain ⟨r, h', e, ⟨h1, h2⟩, h3⟩ := c_draw hh hm (by
    have := (Nat.log2_lt (n := m.natAbs) (k := 60) (by omega)).mpr (by omega)
    omega)
  exact ⟨_, _, e, (f r h' h3 h1 h2).out⟩
end CM

set_option Elab.async false
set_option linter.all false
set_option maxRecDepth 100000
set_option maxHeartbeats 0
namespace CM
open PF
-- _law_raw ['hand', 'n', 'top', 'rows', 'i', 'j', 'place', 'row']
def b__law_raw : List PF.St := [.asg 3 (.comp (.op .mul [(.lst [(.cst (.int 0))]), (.nm 1)]) (.one 6) 1 [(.nm 1)] []), .for_ (.one 4) 1 [(.nm 1)] [.for_ (.one 5) 1 [(.nm 4)] [.asg1 (.s2 3 (.nm 4) (.nm 5)) (.op .add [(.cst (.int 1)), (.call 0 [(.nm 0), (.nm 2)])]), .asg1 (.s2 3 (.nm 5) (.nm 4)) (.idx (.idx (.nm 3) (.nm 4)) (.nm 5))] [5]] [4, 5], .ret (.op .tuple [(.comp (.op .tuple [(.nm 7)]) (.one 7) 0 [(.nm 3)] [])])]
def C__law_raw : CT := mk [C__law_draw] 8 3 b__law_raw
-- _law_any ['hand', 'some']
def b__law_any : List PF.St := [.ret (.idx (.nm 1) (.call 0 [(.nm 0), (.op .len [(.nm 1)])]))]
def C__law_any : CT := mk [C__law_draw] 2 2 b__law_any
-- _law_share ['top', 'bottom', 'one', 'other']
def b__law_share : List PF.St := [.asgT [2, 3] (.tup [(.op .abs [(.nm 0)]), (.nm 1)]), .whl (.op .gt [(.nm 3), (.cst (.int 0))]) [.asgT [2, 3] (.tup [(.nm 3), (.op .mod [(.op .int [(.nm 2)]), (.nm 3)])])] [], .ret (.tup [(.op .fdiv [(.nm 0), (.nm 2)]), (.op .fdiv [(.nm 1), (.nm 2)])])]
def C__law_share : CT := mk [] 4 2 b__law_share
-- _law_pairs ['n', 'found', 'i', 'j']
def b__law_pairs : List PF.St := [.asg 1 (.lst []), .for_ (.one 2) 1 [(.nm 0)] [.asg 1 (.op .add [(.nm 1), (.comp (.tup [(.nm 2), (.nm 3)]) (.one 3) 2 [(.op .add [(.nm 2), (.cst (.int 1))]), (.nm 0)] [])])] [2], .ret (.nm 1)]
def C__law_pairs : CT := mk [] 4 1 b__law_pairs
-- _law_names ['n', 'found', 'step', 'longer', 'row', 'one']
def b__law_names : List PF.St := [.asg 1 (.lst [(.tup [])]), .for_ (.one 2) 1 [(.nm 0)] [.asg 3 (.lst []), .for_ (.one 4) 0 [(.nm 1)] [.asg 3 (.op .add [(.nm 3), (.comp (.op .add [(.nm 4), (.tup [(.nm 5)])]) (.one 5) 1 [(.nm 0)] [(.op .nin [(.nm 5), (.nm 4)])])])] [4], .asg 1 (.nm 3)] [2, 3, 4], .ret (.nm 1)]
def C__law_names : CT := mk [] 6 1 b__law_names
-- pairs_below ['many', 'found', 'i', 'j']
def b_pairs_below : List PF.St := [.asg 1 (.lst []), .for_ (.one 2) 1 [(.nm 0)] [.ext 1 (.comp (.tup [(.nm 2), (.nm 3)]) (.one 3) 2 [(.op .add [(.nm 2), (.cst (.int 1))]), (.nm 0)] [])] [2], .ret (.nm 1)]
def C_pairs_below : CT := mk [] 4 1 b_pairs_below
-- check_like ['one', 'other']
def b_check_like : List PF.St := [.exp (.call 0 [(.nm 0), (.nm 1)]), .ite (.op .ne [(.op .len [(.nm 0)]), (.op .len [(.nm 1)])]) [.fail] []]
def C_check_like : CT := mk [C_check_both] 2 2 b_check_like
local macro_rules | `(tactic| modx_arm) => `(tactic| first | (simp only [List.length_cons, List.length_nil]; exact Nat.le_of_ble_eq_true rfl) | assumption)
local macro_rules | `(tactic| top_argsB) => `(tactic| first | assumption | exact ok_tab | exact ok_row | exact ok_nat | (with_unfolding_all rfl))
local macro_rules | `(tactic| top_caughtB) => `(tactic| first | exact o_isiT rfl rfl | exact o_isiF rfl rfl)
local macro_rules | `(tactic| k_caught0) => `(tactic| first | assumption | omega | (rw [List.length_range]; first | assumption | omega) | (rw [List.length_range']; exact lim49 (by omega)))
local macro_rules | `(tactic| top_raiseB0) => `(tactic| first | exact own_rv | (dsimp only [PF.own, look, put, reduceIte, Bool.false_eq_true] <;> rfl))
local macro_rules | `(tactic| top_reprB) => `(tactic| first | (simp only [PF.bind, putAll, put, unpk, List.map, reduceIte, Bool.false_eq_true] <;> rfl) | rfl)
local macro_rules | `(tactic| top_strB) => `(tactic| (dsimp only [put, kill, Tg.own, putAll, List.map, back] <;> rfl))
local macro_rules | `(tactic| k_caughtN0) => `(tactic| first
  | exact src_one (.tup isSeq_row) | exact src_one (.tup isSeq_tab) | exact src_one (.tup isSeq_nat) | exact src_enumR (.tup isSeq_row) | exact src_enumR (.tup isSeq_tab)
  | exact src_zipR (.tup isSeq_row) (.tup isSeq_row) | exact src_zipR (.tup isSeq_tab) (.tup isSeq_tab)
  | exact src_one (.tup isSeq_map) | exact src_one (.lst isLst_map) | exact src_one (.live rfl rfl isLst_map)
  | (refine src_r1 rfl ?_; k_caught0) | (refine src_r2S rfl rfl ?_ ?_ <;> k_caught0) | (refine src_r2O rfl rfl ?_ <;> k_caught0) | (refine src_r2 rfl rfl ⟨?_, ?_⟩ ⟨?_, ?_⟩ <;> k_caught0)
  | (refine src_mat rfl rfl ?_; k_caught0) | exact src_enum (.tup isSeq_map) | exact src_zip (.tup isSeq_map) (.tup isSeq_map)
  | exact src_one (.tup isSeq_id))
local macro_rules | `(tactic| mod_arm) => `(tactic| first | assumption | (left; refine big_of ?_ ?_ <;> k_caught0) | (right; refine big_of ?_ ?_ <;> k_caught0))
local macro_rules | `(tactic| k_caughtNB) => `(tactic| first
  | (change V2 _ _ _ _ _; with_reducible first | refine v_eqI ?_ | refine v_add ?_ | refine v_sub ?_ | (refine v_mul ?_ ?_; (focus mod_arm)) | (refine v_mod ?_ ?_; (focus k_caught0)) | (refine v_fdiv ?_ ?_ ?_; (focus k_caught0); (focus k_caught0)) | refine v_neI ?_ | refine v_ltI ?_ | refine v_leI ?_ | refine v_gtI ?_ | refine v_geI ?_ | refine v_eqB ?_ | refine v_neB ?_ | refine v_isNN ?_ | refine v_isnNN ?_ | refine v_isI ?_ | refine v_isnI ?_ | refine v_isT ?_ | refine v_isnT ?_ | refine v_max2 ?_ | refine v_min2 ?_ | refine v_nin2 ?_ | refine v_in2 ?_ | (refine v_index ?_ ?_; (focus k_caught0)) | refine v_eqLi ?_ | refine v_nin_nat ?_ | refine v_in_nat ?_ | (refine v_cat1_nat ?_ ?_; (focus k_caught0)) | (refine v_cat_nat ?_ ?_; (focus k_caught0)) | (refine v_mul0 ?_ ?_; (focus k_caught0)) | (refine v_neS ?_ ?_; (focus top_argsB)) | (refine v_eqS ?_ ?_; (focus top_argsB)))
  | (change V2 _ _ _ _ _; first | refine v_isN rfl ?_ | refine v_isnN rfl ?_)
  | (change VI _ _ _ _; with_reducible first | (refine v_item_tab ?_ ?_; (focus k_caught0)) | (refine v_item_row ?_ ?_; (focus k_caught0)) | (refine v_item_at ?_ ?_; (focus k_caught0)) | refine v_fr0 ?_ | refine v_fr1 ?_ | refine v_it0 ?_ | refine v_it1 ?_ | refine v_it2 ?_ | (refine v_rowL ?_ ?_; (focus k_caught0)) | (refine v_itm ?_ ?_; (focus k_caught0)) | (refine v_itl ?_ ?_; (focus k_caught0)))
  | (change V1 _ _ _ _; with_reducible first | refine v_len_tab ?_ | refine v_len_row ?_ | refine v_len_nat ?_ | refine v_len_mat ?_ | refine v_len_rowL ?_ | refine v_len_map ?_ | refine v_len_lstM ?_ | refine v_len_lst ?_ | refine v_len_tup ?_ | refine v_all ?_ | refine v_any ?_ | refine v_sum ?_ | refine v_tuple_rowL ?_ | refine v_tuple_tab ?_ | refine v_tuple_nat ?_ | refine v_tuple_row ?_ | refine v_tuple_map ?_ | refine v_tuple_lst ?_ | refine v_list_row ?_ | refine v_list_nat ?_ | refine v_list_map ?_ | (refine v_lrng1 ?_ ?_ ?_; (focus k_caught0); (focus k_caught0)) | (refine v_trng1 ?_ ?_ ?_; (focus k_caught0); (focus k_caught0)) | (refine v_sortedP (by assumption) ?_) | refine v_abs ?_ | refine v_int ?_ | refine v_neg ?_)
  | (change V1 _ _ _ _; first | refine v_isiT rfl rfl ?_ | refine v_isiF rfl rfl ?_ | refine v_isi2 (by top_caughtB) (by top_caughtB) ?_))
local macro_rules | `(tactic| k_memK) => `(tactic| first
  | (change ∀ _, _; first | refine forall_range ?_ | refine forall_range' ?_ | intro _)
  | (change W _ _ _ _ _; first | refine W_nmP rfl ?_ | refine W_cst ?_ | refine W_op2 ?_ | refine W_op1 ?_ | (apply W_idxM rfl; (focus with_reducible rfl)) | refine W_idx ?_ | refine W_call rfl ?_ | refine W_nmL rfl rfl ?_ | (refine W_nmL rfl (hand_np ?_) ?_; (focus assumption)) | refine W_boP rfl ?_ | refine W_boL rfl rfl rfl ?_ | refine W_and ?_ | refine W_or ?_ | refine W_not ?_ | refine W_comp0 ?_ | refine W_comp1 ?_ | refine W_tup ?_ | refine W_lst ?_ | refine W_chain ?_ | refine W_op3 ?_ | refine W_mth ?_ | refine W_slc ?_)
  | (change WL _ _ _ _ _; first | refine WL_cons ?_ | refine WL_nil ?_)
  | k_caughtNB
  | (change WS _ _ _ _; first | refine WS_asg ?_ | refine WS_ret ?_ | refine WS_ite ?_ | refine WS_for ?_ | refine WS_exp ?_ | refine WS_asgD ?_ | refine WS_asgT ?_ | refine WS_asg1 ?_ | refine WS_asgM ?_ | refine WS_aug rfl ?_ | refine WS_app rfl ?_ | refine WS_ext rfl ?_ | refine WS_retN ?_ | refine WS_pass ?_ | with_reducible refine WS_nil ?_ | with_reducible refine WS_appC ?_ | with_reducible refine WS_appN ?_ | refine WS_brk ?_ | refine WS_cnt ?_)
  | refine K_2r ?_ | refine K_1r ?_ | refine K_1b ?_ | refine K_ir ?_ | refine K_1 rfl ?_ | refine K_2 rfl rfl ?_ | refine K_i rfl rfl ?_
  | (apply K_f; (focus k_caughtB); (focus top_strB)) | refine K_v rfl rfl ?_ | (apply K_w; (focus top_raiseB0)) | refine K_t rfl ?_ | (apply K_p; (focus top_strB))
  | with_reducible refine K_orT ?_ | with_reducible apply K_orF | with_reducible refine K_andF ?_ | with_reducible apply K_andT | apply K_and | apply K_or | apply K_c o_leI | apply K_c o_ltI | apply K_c o_geI | apply K_c o_gtI | apply K_c o_eqI
  | exact isB_ | exact isV_ | exact ans_ | exact K_ce o_leI | exact K_ce o_ltI | exact K_ce o_geI | exact K_ce o_gtI | exact K_ce o_eqI | refine K_fr rfl ?_ | refine K_fn rfl ?_
  | (apply K_m0; (focus top_strB); (focus k_caughtN0); (focus k_caught0)) | (apply K_m1; (focus top_strB); (focus k_caughtN0); (focus k_caught0))
  | (apply K_e; (focus top_reprB)) | (apply K_ec; (focus top_reprB)) | (apply K_n; (focus top_raiseB0); (focus rfl))
  | (refine K_lm ?_ ?_; (focus modx_arm)) | (apply K_tu; (focus (simp only [pures, Option.map_some] <;> rfl)); (focus modx_arm)) | refine K_oN ?_ | (apply K_oC; (focus top_raiseB0)) | refine K_3 rfl rfl rfl ?_ | (refine K_im rfl rfl ?_ ?_; (focus k_caught0)) | refine K_sn ?_ | refine K_s2 ?_ | refine K_s1 ?_ | (apply K_st2m rfl; (focus with_reducible rfl); (focus rfl); (focus rfl); (focus k_caught0); (focus k_caught0); (focus top_strB)) | (apply K_bb; (focus top_strB)) | refine K_ssC ?_ | refine K_ssN ?_
  | (apply K_ps; (focus top_strB)) | (apply K_u; (focus rfl)) | (apply K_ap rfl; (focus k_caught0); (focus top_strB)) | (apply K_ex rfl; (focus k_caught0); (focus top_strB)) | refine K_if rfl ?_ ?_
  | (apply K_nx; (focus top_strB)) | (apply K_ct; (focus top_strB)) | (apply K_bk; (focus top_strB)) | refine K_rt ?_ | (with_reducible apply K_b; (focus top_reprB)) | with_reducible rfl | refine And.intro rfl (And.intro rfl ?_) | refine K_mt rfl rfl rfl ?_ | refine K_sl1 rfl ?_)
local macro_rules | `(tactic| fold_depth) => `(tactic| (apply Sp_mk; (focus rfl); (focus (dsimp only [startS, List.map, List.length, Nat.zero_add, Nat.reduceAdd, Nat.reduceSub, List.replicate, List.cons_append, List.nil_append] <;> rfl)); (focus (simp only [stsO, stO, Tgt.st, Tg.own, List.flatMap_cons, List.flatMap_nil, List.append_nil, List.nil_append, List.cons_append] <;> rfl))))
local macro_rules | `(tactic| top_caught0) => `(tactic| first
  | (refine srcF_r1 rfl ?_; k_caught0) | (refine srcF_r2S rfl rfl ?_ ?_ <;> k_caught0) | (refine srcF_r2 rfl rfl ⟨?_, ?_⟩ ⟨?_, ?_⟩ <;> k_caught0)
  | exact srcF_one (.tup isSeq_row) | exact srcF_one (.tup isSeq_tab) | exact srcF_one (.tup isSeq_nat) | exact srcF_enumR (.tup isSeq_row) | exact srcF_enumR (.tup isSeq_tab)
  | exact srcF_zipR (.tup isSeq_row) (.tup isSeq_row) | exact srcF_zipR (.tup isSeq_tab) (.tup isSeq_tab)
  | exact srcF_one (.live rfl (fun _ h => by rw [h]; rfl) rfl isLst_map) | exact srcF_one (.lst isLst_map) | exact srcF_one (.tup isSeq_map) | exact srcF_one (.tup isSeq_id))
local macro_rules | `(tactic| top_raise0) => `(tactic| (apply K_foS; (focus top_strB); (focus top_caught0)))

local macro_rules | `(tactic| k_memK) => `(tactic| (refine k_draw ?_ ?_ ?_ ?_; (focus assumption); (focus k_caught0); (focus k_caught0); intro r h hh hr0 hr1))
local macro_rules | `(tactic| k_caughtB) => `(tactic| with_reducible exact c_check_both (by assumption) (by assumption))
section
variable {n m : Nat} {f g : Nat → Nat → Int} {xs : List Nat}
theorem c_check_like (t : Tab n f) (u : Tab n g) : C_check_like [.p (tabT n f), .p (tabT n g)] = some (.p .non, [none, none]) := by
  refine Sp.eq ?_
  delta C_check_like b_check_like
  fold_depth
  repeat k_memK
  · rename_i h; simp at h
  repeat k_memK
theorem k_raw {h : D} {q : Bool} {rs : List R} {ρ : List S} {Q : R → List S → Prop} {top : Int} (hh : IsHand h) (h1 : 1 ≤ n) (h7 : n ≤ 7) (ht : 0 < top) (ht2 : top ≤ 1000) (F : ∀ h' g, IsHand h' → Tab n g → (∀ i j, i < n → j < n → g i j ≤ top) → KBk rs [some h', none, none] ρ fun ρ2 => Q (.rv (.p (tabT n g))) ρ2) : KF C__law_raw q rs [h, .p (.int n), .p (.int top)] ρ Q := by
  refine K_fs ?_
  have hl := lim7 h7
  delta C__law_raw b__law_raw
  fold_depth
  repeat k_memK
  refine K_foR (n := n) (fun i ρ => ∃ h g, IsHand h ∧ RawI top i 0 g ∧ ρ = [.val h, .val (.p (.int n)), .val (.p (.int top)), .val (matD n g), .no, .no, .no, .no]) (by top_strB) (srcF_r1 rfl (by omega)) ⟨h, fun _ _ => 0, hh, ⟨fun _ _ => rfl, fun _ => rfl, fun a b hab hd => by omega⟩, rfl⟩ ?_ ?_
  · rintro i ρ hi ⟨h, g, hh, hg, rfl⟩
    refine K_b (by top_reprB) ?_
    repeat k_memK
    refine K_foR (n := i) (fun j ρ => ∃ h g, IsHand h ∧ RawI top i j g ∧ ρ = [.val h, .val (.p (.int n)), .val (.p (.int top)), .val (matD n g), .val (.p (.int (i : Nat))), .no, .no, .no]) (by top_strB) (srcF_r1 rfl (by omega)) ⟨h, g, hh, hg, rfl⟩ ?_ ?_
    · rintro j ρ hj ⟨h, g, hh, hg, rfl⟩
      have hj' : j < n := by omega
      refine K_b (by top_reprB) ?_
      repeat k_memK
      rename_i r h' hh' hr0 hr1
      refine ⟨h', _, hh', hg.step hj (v := 1 + r) (by omega), ?_⟩
      have e : upd2 g i j (1 + r) i j = 1 + r := by simp [upd2]
      rw [e]
    · rintro ρ ⟨h, g, hh, hg, rfl⟩
      repeat k_memK
      exact ⟨h, g, hh, ⟨hg.sy, hg.dz, fun a b hab hd => hg.ok a b hab (by omega)⟩, rfl⟩
  · rintro ρ ⟨h', g, hh', hg, rfl⟩
    repeat k_memK
    rw [show left [3, 4, 5] 0 [h, .p (.int n), .p (.int top)] [.val h', .val (.p (.int n)), .val (.p (.int top)), .val (matD n g), .no, .no, .no, .no] = [some h', none, none] by simp only [left, hand_np hh]; simp [look, isP]]
    refine (F h' g hh' (hg.tab h1 h7 ht2) fun i j hi hj => ?_).out
    by_cases e : i = j
    · rw [e, hg.dz]; omega
    · rcases Nat.lt_or_gt_of_ne e with z | z
      · exact (hg.ok i j z (by omega)).2
      · rw [hg.sy]; exact (hg.ok j i z (by omega)).2
theorem c__law_pairs (h7 : n ≤ 7) : C__law_pairs [.p (.int n)] = some (.l ((pairsN n).map encP), [none]) := by
  refine Sp.eq ?_
  delta C__law_pairs b__law_pairs
  fold_depth
  repeat k_memK
  refine K_foR (n := n) (fun i ρ => ρ = [.val (.p (.int n)), .val (.l ((pairsTo n i).map encP)), .no, .no]) (by top_strB) (srcF_r1 rfl (by omega)) rfl ?_ ?_
  · rintro i ρ hi rfl
    have hl := pairs_lim h7 (show i ≤ n by omega)
    refine K_b (by top_reprB) ?_
    repeat k_memK
    refine v_catD (pures_mapP _ _) (pures_mapP _ _) (by simp; exact lim49 (by omega)) ?_
    repeat k_memK
    rw [pairsTo_succ, List.map_append, pairsOf, List.map_map]
    rfl
  · rintro ρ rfl
    repeat k_memK
theorem c_pairs_below (h7 : n ≤ 7) : C_pairs_below [.p (.int n)] = some (.l ((pairsN n).map encP), [none]) := by
  refine Sp.eq ?_
  delta C_pairs_below b_pairs_below
  fold_depth
  repeat k_memK
  refine K_foR (n := n) (fun i ρ => ρ = [.val (.p (.int n)), .val (.l ((pairsTo n i).map encP)), .no, .no]) (by top_strB) (srcF_r1 rfl (by omega)) rfl ?_ ?_
  · rintro i ρ hi rfl
    have hl := pairs_lim h7 (show i ≤ n by omega)
    refine K_b (by top_reprB) ?_
    repeat k_memK
    refine K_ex rfl (by simp; exact lim49 (by omega)) (by top_strB) ?_
    repeat k_memK
    rw [pairsTo_succ, List.map_append, pairsOf, List.map_map]
    rfl
  · rintro ρ rfl
    repeat k_memK
theorem c__law_names (h7 : n ≤ 7) : C__law_names [.p (.int n)] = some (.l ((rowsN n n).map encR), [none]) := by
  refine Sp.eq ?_
  have hl := lim7 h7
  delta C__law_names b__law_names
  fold_depth
  repeat k_memK
  refine K_foR (n := n) (fun p ρ => ρ = [.val (.p (.int n)), .val (.l ((rowsN n p).map encR)), .no, .no, .no, .no]) (by top_strB) (srcF_r1 rfl (by omega)) (by simp [rowsN, lvl, encR, natT]) ?_ ?_
  · rintro p ρ hp rfl
    refine K_b (by top_reprB) ?_
    repeat k_memK
    refine K_fo (xs := rowsN n p) (enc := encR) (fun pre ρ => ∃ s, ρ = [.val (.p (.int n)), .val (.l ((rowsN n p).map encR)), s, .val (.l ((pre.flatMap (ext n (cN p))).map encR)), .no, .no]) (by top_strB) (srcF_one (.live rfl (by rintro ρ0 ⟨i, s, rfl⟩; rfl) rfl isLst_map)) ⟨_, rfl⟩ ?_ ?_
    · rintro pre row post ρ hx ⟨s, rfl⟩
      have hL := grow_lim h7 hp hx
      have hr := row_lim h7 hp (row := row) (by rw [hx]; simp)
      refine K_b (by top_reprB) ?_
      repeat k_memK
      refine v_catD (pures_mapP _ _) (pures_mapP _ _) (by rw [ext, List.length_map] at hL; rw [List.length_map, List.length_map]; exact hL) ?_
      repeat k_memK
      refine ⟨s, ?_⟩
      simp only [List.flatMap_append, List.map_append, List.flatMap_singleton, List.flatMap_cons, List.flatMap_nil, List.append_nil]
      unfold ext
      rw [List.map_map]
      rfl
    · rintro ρ ⟨s, rfl⟩
      repeat k_memK
      rfl
  · rintro ρ rfl
    repeat k_memK
theorem k_any {h : D} {q : Bool} {rs : List R} {ρ : List S} {Q : R → List S → Prop} {F : List (List Nat)} (hh : IsHand h) (h1 : 0 < F.length) (h2 : F.length < 2 ^ 59) (f : ∀ h' row, IsHand h' → row ∈ F → KBk rs [some h', some (.l (F.map encR))] ρ fun ρ2 => Q (.rv (encR row)) ρ2) : KF C__law_any q rs [h, .l (F.map encR)] ρ Q := by
  refine K_fs ?_
  delta C__law_any b__law_any
  fold_depth
  repeat k_memK
  rename_i r h' hh' hr0 hr1
  obtain ⟨k, rfl⟩ : ∃ k : Nat, r = k := ⟨r.toNat, by omega⟩
  have hk : k < F.length := by omega
  repeat k_memK
  rw [show left [] 0 [h, D.l (F.map encR)] [S.val h', S.val (D.l (F.map encR))] = [some h', some (.l (F.map encR))] by simp only [left, hand_np hh]; simp [look, isP]]
  exact (f h' _ hh' (List.getElem_mem hk)).out
theorem c__law_share {a b : Int} (hb : 0 < b) (hb2 : b < FUEL) : C__law_share [.p (.int a), .p (.int b)] = some (.p (fracT (shr a b)), [none, none]) := by
  refine Sp.eq ?_
  have hg := gcd_le (a := a) hb
  have hl := log_ok (a := a) hb hb2
  have hg' : (0 : Int) < (Int.gcd a b : Nat) := by omega
  delta C__law_share b__law_share
  fold_depth
  repeat k_memK
  refine WS_whl (fun m ρ => ∃ x y : Int, 0 ≤ x ∧ 0 ≤ y ∧ m = y.toNat ∧ Int.gcd x y = Int.gcd a b ∧ ρ = [.val (.p (.int a)), .val (.p (.int b)), .val (.p (.int x)), .val (.p (.int y))]) (m0 := b.toNat) rfl (by unfold FUEL at *; omega) ⟨(a.natAbs : Nat), b, by omega, by omega, rfl, by simp [Int.gcd], rfl⟩ ?_
  rintro m ρ ⟨x, y, hx, hy, rfl, hg, rfl⟩
  repeat k_memK
  refine ⟨fun h => ?_, fun h => ?_⟩
  · have : y = 0 := by simp at h; omega
    subst this
    rw [Int.gcd_zero_right] at hg
    have hx' : x = (Int.gcd a b : Nat) := by omega
    subst hx'
    repeat k_memK
  · have hp : 0 < y := by simpa using h
    repeat k_memK
    have h1 := Int.emod_nonneg x (show y ≠ 0 by omega)
    have h2 := Int.emod_lt_of_pos x hp
    exact ⟨(x % y).toNat, by omega, y, x % y, hy, h1, rfl, (gcd_step hp).trans hg, rfl⟩
end
end CM

set_option Elab.async false
set_option linter.all false
set_option maxRecDepth 100000
set_option maxHeartbeats 0
namespace CM
open PF
-- _law_hand97 ['script', 'cells', 'cell']
def b__law_hand97 : List PF.St := [.asg 1 (.comp (.op .abs [(.op .int [(.nm 2)])]) (.one 2) 0 [(.op (.slice false true) [(.nm 0), (.cst (.int 63))])] []), .ret (.lst [(.nm 1), (.cst (.int 0)), (.cst (.int 0)), (.op .add [(.cst (.int 97)), (.op .mul [(.cst (.int 5)), (.op .len [(.nm 1)])])]), (.cst (.int 0))])]
def C__law_hand97 : CT := mk [] 3 1 b__law_hand97
-- _law_draw97 ['hand', 'many', 'number', 'cell', 'figure']
def b__law_draw97 : List PF.St := [.ite (.and_ (.op .eq [(.idx (.nm 0) (.cst (.int 2))), (.cst (.int 0))]) (.op .lt [(.idx (.nm 0) (.cst (.int 1))), (.op .len [(.idx (.nm 0) (.cst (.int 0)))])])) [.asg 3 (.idx (.idx (.nm 0) (.cst (.int 0))) (.idx (.nm 0) (.cst (.int 1)))), .asg1 (.s1 0 (.cst (.int 1))) (.op .add [(.idx (.nm 0) (.cst (.int 1))), (.cst (.int 1))]), .asg1 (.s1 0 (.cst (.int 3))) (.op .mod [(.op .int [(.op .add [(.op .add [(.op .mul [(.idx (.nm 0) (.cst (.int 3))), (.cst (.int 48271))]), (.nm 3)]), (.cst (.int 31))])]), (.cst (.int 2147483647))]), .ite (.op .ge [(.nm 3), (.op .pow [(.cst (.int 10)), (.cst (.int 18))])]) [.asg1 (.s1 0 (.cst (.int 2))) (.nm 3)] []] [], .ite (.op .gt [(.idx (.nm 0) (.cst (.int 2))), (.cst (.int 0))]) [.asg 4 (.op .mod [(.op .int [(.idx (.nm 0) (.cst (.int 2)))]), (.nm 1)]), .asg1 (.s1 0 (.cst (.int 2))) (.op .fdiv [(.idx (.nm 0) (.cst (.int 2))), (.nm 1)]), .ret (.nm 4)] [], .asg1 (.s1 0 (.cst (.int 4))) (.op .add [(.idx (.nm 0) (.cst (.int 4))), (.cst (.int 1))]), .asg 2 (.op .mod [(.op .int [(.op .mul [(.op .int [(.op .add [(.idx (.nm 0) (.cst (.int 3))), (.op .mul [(.cst (.int 6151)), (.idx (.nm 0) (.cst (.int 4)))])])]), (.cst (.int 40692))])]), (.cst (.int 2147483399))]), .asg 2 (.op .mod [(.op .int [(.op .mul [(.nm 2), (.op .add [(.op .fdiv [(.nm 2), (.cst (.int 1223))]), (.cst (.int 52027))])])]), (.cst (.int 2147483629))]), .asg 2 (.op .mod [(.op .int [(.op .mul [(.nm 2), (.op .add [(.op .fdiv [(.nm 2), (.cst (.int 2671))]), (.cst (.int 69621))])])]), (.cst (.int 2147483647))]), .ret (.op .mod [(.op .int [(.op .fdiv [(.nm 2), (.cst (.int 32))])]), (.nm 1)])]
def C__law_draw97 : CT := mk [] 5 2 b__law_draw97
section
variable {cells : List Int} {a : Nat} {b c e m : Int} {ρ : List S} {q : Bool}
/-- the first step of a draw -/
theorem draw_a97 {s2 s3 s4 : S} : ∃ a' b' c' s3', PF.run [] (.ite (.and_ (.op .eq [(.idx (.nm 0) (.cst (.int 2))), (.cst (.int 0))]) (.op .lt [(.idx (.nm 0) (.cst (.int 1))), (.op .len [(.idx (.nm 0) (.cst (.int 0)))])])) [.asg 3 (.idx (.idx (.nm 0) (.cst (.int 0))) (.idx (.nm 0) (.cst (.int 1)))), .asg1 (.s1 0 (.cst (.int 1))) (.op .add [(.idx (.nm 0) (.cst (.int 1))), (.cst (.int 1))]), .asg1 (.s1 0 (.cst (.int 3))) (.op .mod [(.op .int [(.op .add [(.op .add [(.op .mul [(.idx (.nm 0) (.cst (.int 3))), (.cst (.int 48271))]), (.nm 3)]), (.cst (.int 31))])]), (.cst (.int 2147483647))]), .ite (.op .ge [(.nm 3), (.op .pow [(.cst (.int 10)), (.cst (.int 18))])]) [.asg1 (.s1 0 (.cst (.int 2))) (.nm 3)] []] [])
    [.val (hs cells a b c e), .val (.p (.int m)), s2, s3, s4] = some (.nx [.val (hs cells a' b' c' e), .val (.p (.int m)), s2, s3', s4]) := by
  have c1 : ev [] false (.op .eq [(.idx (.nm 0) (.cst (.int 2))), (.cst (.int 0))]) [.val (hs cells a b c e), .val (.p (.int m)), s2, s3, s4] = some (.rv (.p (.bl (decide (b = 0)))), [.val (hs cells a b c e), .val (.p (.int m)), s2, s3, s4]) :=
    e_bin h2 e_cst (by simp [opD, eqOp, eqD, okT, eqT, B, beq_dec])
  have c2 : ev [] false (.op .lt [(.idx (.nm 0) (.cst (.int 1))), (.op .len [(.idx (.nm 0) (.cst (.int 0)))])]) [.val (hs cells a b c e), .val (.p (.int m)), s2, s3, s4] = some (.rv (.p (.bl (decide (a < cells.length)))), [.val (hs cells a b c e), .val (.p (.int m)), s2, s3, s4]) :=
    e_bin h1 (e_un_bv h0 (o := .len) (d := .p (.int cells.length)) (by simp [opD, lenD, I])) (by simp [opD, cmpD, B])
  by_cases hb : b = 0
  · by_cases ha : a < cells.length
    · simp only [hb, ha, decide_true] at c1 c2
      subst hb
      generalize hcl : cells[a]?.getD 0 = cl
      have e1 : ev [] false (.op .mod [(.op .int [(.op .add [(.op .add [(.op .mul [(.idx (.nm 0) (.cst (.int 3))), (.cst (.int 48271))]), (.nm 3)]), (.cst (.int 31))])]), (.cst (.int 2147483647))]) [.val (hs cells (a + 1) 0 c e), .val (.p (.int m)), s2, .val (.p (.int cl)), s4] = some (.rv (.p (.int ((c * 48271 + cl + 31) % 2147483647))), [.val (hs cells (a + 1) 0 c e), .val (.p (.int m)), s2, .val (.p (.int cl)), s4]) :=
        e_bin (e_un (e_bin (e_bin (e_bin h3 e_cst (x := .p (.int c)) (y := .p (.int 48271)) (d := .p (.int (c * 48271))) (by simp [opD, mulD, big64, I])) (e_nm rfl) (d := .p (.int (c * 48271 + cl))) rfl) e_cst (d := .p (.int (c * 48271 + cl + 31))) rfl) (d := .p (.int (c * 48271 + cl + 31))) rfl) e_cst (by simp [opD, modD, I])
      have e2 : ∀ c', ev [] false (.op .ge [(.nm 3), (.op .pow [(.cst (.int 10)), (.cst (.int 18))])]) [.val (hs cells (a + 1) 0 c' e), .val (.p (.int m)), s2, .val (.p (.int cl)), s4] = some (.rv (.p (.bl (decide (10 ^ 18 ≤ cl)))), [.val (hs cells (a + 1) 0 c' e), .val (.p (.int m)), s2, .val (.p (.int cl)), s4]) := fun c' =>
        e_bin (e_nm rfl) (e_bin e_cst e_cst (x := .p (.int 10)) (y := .p (.int 18)) (d := .p (.int (10 ^ 18))) (by simp [opD, powD, powC, I])) (x := .p (.int cl)) rfl
      have e3 : ev [] false (.op .add [(.idx (.nm 0) (.cst (.int 1))), (.cst (.int 1))]) [.val (hs cells a 0 c e), .val (.p (.int m)), s2, .val (.p (.int cl)), s4] = some (.rv (.p (.int (a + 1 : Nat))), [.val (hs cells a 0 c e), .val (.p (.int m)), s2, .val (.p (.int cl)), s4]) := e_bin h1 e_cst (by simp [opD, addD, I])
      have e0 := hcell (b := 0) (c := c) (e := e) (ρ := [.val (.p (.int m)), s2, s3, s4]) ha
      rw [hcl] at e0
      by_cases hg : (10 : Int) ^ 18 ≤ cl
      · simp only [hg, decide_true] at e2
        exact ⟨a + 1, cl, _, _, run_ite_t (t_rv (e_andt c1 c2)) (runs_nx (r_asg e0) (runs_nx (run_asg1 (o_rv e3) p1) (runs_nx (run_asg1 (o_rv e1) p3) (runs_one (run_ite_t (t_rv (e2 _)) (runs_one (run_asg1 (o_rv (e_nm rfl)) p2)))))))⟩
      · simp only [hg, decide_false] at e2
        exact ⟨a + 1, 0, _, _, run_ite_t (t_rv (e_andt c1 c2)) (runs_nx (r_asg e0) (runs_nx (run_asg1 (o_rv e3) p1) (runs_nx (run_asg1 (o_rv e1) p3) (runs_one (run_ite_f (t_rv (e2 _)) runs_0)))))⟩
    · simp only [ha, decide_false] at c2
      simp only [hb, decide_true] at c1
      subst hb
      exact ⟨a, 0, c, s3, run_ite_f (t_rv (e_andt c1 c2)) runs_0⟩
  · simp only [hb, decide_false] at c1
    exact ⟨a, b, c, s3, run_ite_f (t_rv (e_andf c1)) runs_0⟩
/-- the draw from a big number -/
theorem draw_b97 {s2 s3 s4 : S} (hm : 0 < m) (hm2 : m.natAbs.log2 < 9000) (hb : 0 < b) : runs [] [.ite (.op .gt [(.idx (.nm 0) (.cst (.int 2))), (.cst (.int 0))]) [.asg 4 (.op .mod [(.op .int [(.idx (.nm 0) (.cst (.int 2)))]), (.nm 1)]), .asg1 (.s1 0 (.cst (.int 2))) (.op .fdiv [(.idx (.nm 0) (.cst (.int 2))), (.nm 1)]), .ret (.nm 4)] [], .asg1 (.s1 0 (.cst (.int 4))) (.op .add [(.idx (.nm 0) (.cst (.int 4))), (.cst (.int 1))]), .asg 2 (.op .mod [(.op .int [(.op .mul [(.op .int [(.op .add [(.idx (.nm 0) (.cst (.int 3))), (.op .mul [(.cst (.int 6151)), (.idx (.nm 0) (.cst (.int 4)))])])]), (.cst (.int 40692))])]), (.cst (.int 2147483399))]), .asg 2 (.op .mod [(.op .int [(.op .mul [(.nm 2), (.op .add [(.op .fdiv [(.nm 2), (.cst (.int 1223))]), (.cst (.int 52027))])])]), (.cst (.int 2147483629))]), .asg 2 (.op .mod [(.op .int [(.op .mul [(.nm 2), (.op .add [(.op .fdiv [(.nm 2), (.cst (.int 2671))]), (.cst (.int 69621))])])]), (.cst (.int 2147483647))]), .ret (.op .mod [(.op .int [(.op .fdiv [(.nm 2), (.cst (.int 32))])]), (.nm 1)])]
    [.val (hs cells a b c e), .val (.p (.int m)), s2, s3, s4] = some (.rt (.p (.int (b % m))) [.val (hs cells a (b / m) c e), .val (.p (.int m)), s2, s3, .val (.p (.int (b % m)))]) := by
  have c1 : ev [] false (.op .gt [(.idx (.nm 0) (.cst (.int 2))), (.cst (.int 0))]) [.val (hs cells a b c e), .val (.p (.int m)), s2, s3, s4] = some (.rv (.p (.bl true)), [.val (hs cells a b c e), .val (.p (.int m)), s2, s3, s4]) :=
    e_bin h2 e_cst (by simp [opD, cmpD, B, hb])
  have c2 : ev [] false (.op .mod [(.op .int [(.idx (.nm 0) (.cst (.int 2)))]), (.nm 1)]) [.val (hs cells a b c e), .val (.p (.int m)), s2, s3, s4] = some (.rv (.p (.int (b % m))), [.val (hs cells a b c e), .val (.p (.int m)), s2, s3, s4]) :=
    e_bin (e_un h2 (d := .p (.int b)) rfl) (e_nm rfl) (by simp [opD, modD, I, hm])
  have c3 : ev [] false (.op .fdiv [(.idx (.nm 0) (.cst (.int 2))), (.nm 1)]) [.val (hs cells a b c e), .val (.p (.int m)), s2, s3, .val (.p (.int (b % m)))] = some (.rv (.p (.int (b / m))), [.val (hs cells a b c e), .val (.p (.int m)), s2, s3, .val (.p (.int (b % m)))]) :=
    e_bin h2 (e_nm rfl) (by simp [opD, fdivD, I, hm, hm2])
  exact runs_rt (run_ite_t (t_rv c1) (runs_nx (r_asg c2) (runs_nx (run_asg1 (o_rv c3) p2) (runs_rt (r_ret (e_nm rfl))))))
theorem big_lt97 {x y : Int} (h : 0 ≤ x) (h2 : x < 2147483648) : mulD [.p (.int x), .p (.int y)] = some (.p (.int (x * y))) := by
  have : big64 x = true := by simp [big64]; omega
  simp [mulD, this, I]
theorem draw_c97 {s2 s3 s4 : S} (hm : 0 < m) (hb : ¬ 0 < b) : ∃ r x s2', (0 ≤ r ∧ r < m) ∧ runs [] [.ite (.op .gt [(.idx (.nm 0) (.cst (.int 2))), (.cst (.int 0))]) [.asg 4 (.op .mod [(.op .int [(.idx (.nm 0) (.cst (.int 2)))]), (.nm 1)]), .asg1 (.s1 0 (.cst (.int 2))) (.op .fdiv [(.idx (.nm 0) (.cst (.int 2))), (.nm 1)]), .ret (.nm 4)] [], .asg1 (.s1 0 (.cst (.int 4))) (.op .add [(.idx (.nm 0) (.cst (.int 4))), (.cst (.int 1))]), .asg 2 (.op .mod [(.op .int [(.op .mul [(.op .int [(.op .add [(.idx (.nm 0) (.cst (.int 3))), (.op .mul [(.cst (.int 6151)), (.idx (.nm 0) (.cst (.int 4)))])])]), (.cst (.int 40692))])]), (.cst (.int 2147483399))]), .asg 2 (.op .mod [(.op .int [(.op .mul [(.nm 2), (.op .add [(.op .fdiv [(.nm 2), (.cst (.int 1223))]), (.cst (.int 52027))])])]), (.cst (.int 2147483629))]), .asg 2 (.op .mod [(.op .int [(.op .mul [(.nm 2), (.op .add [(.op .fdiv [(.nm 2), (.cst (.int 2671))]), (.cst (.int 69621))])])]), (.cst (.int 2147483647))]), .ret (.op .mod [(.op .int [(.op .fdiv [(.nm 2), (.cst (.int 32))])]), (.nm 1)])]
    [.val (hs cells a b c e), .val (.p (.int m)), s2, s3, s4] = some (.rt (.p (.int r)) [.val (hs cells a b c x), .val (.p (.int m)), s2', s3, s4]) := by
  have c1 : ev [] false (.op .gt [(.idx (.nm 0) (.cst (.int 2))), (.cst (.int 0))]) [.val (hs cells a b c e), .val (.p (.int m)), s2, s3, s4] = some (.rv (.p (.bl false)), [.val (hs cells a b c e), .val (.p (.int m)), s2, s3, s4]) :=
    e_bin h2 e_cst (by simp [opD, cmpD, B]; omega)
  have c2 : ev [] false (.op .add [(.idx (.nm 0) (.cst (.int 4))), (.cst (.int 1))]) [.val (hs cells a b c e), .val (.p (.int m)), s2, s3, s4] = some (.rv (.p (.int (e + 1))), [.val (hs cells a b c e), .val (.p (.int m)), s2, s3, s4]) := e_bin h4 e_cst rfl
  generalize e + 1 = e1 at c2
  have c3 : ev [] false (.op .mod [(.op .int [(.op .mul [(.op .int [(.op .add [(.idx (.nm 0) (.cst (.int 3))), (.op .mul [(.cst (.int 6151)), (.idx (.nm 0) (.cst (.int 4)))])])]), (.cst (.int 40692))])]), (.cst (.int 2147483399))]) [.val (hs cells a b c e1), .val (.p (.int m)), s2, s3, s4] = some (.rv (.p (.int ((c + 6151 * e1) * 40692 % 2147483399))), [.val (hs cells a b c e1), .val (.p (.int m)), s2, s3, s4]) :=
    e_bin (e_un (e_bin (e_un (e_bin h3 (e_bin e_cst h4 (d := .p (.int (6151 * e1))) (by simp [opD, mulD, big64, I])) (d := .p (.int (c + 6151 * e1))) rfl) (d := .p (.int (c + 6151 * e1))) rfl) e_cst (d := .p (.int ((c + 6151 * e1) * 40692))) (by simp [opD, mulD, big64, I])) (d := .p (.int ((c + 6151 * e1) * 40692))) rfl) e_cst (by simp [opD, modD, I])
  have b1 := Int.emod_nonneg ((c + 6151 * e1) * 40692) (show (2147483399 : Int) ≠ 0 by decide)
  have b2 := Int.emod_lt_of_pos ((c + 6151 * e1) * 40692) (show (0 : Int) < 2147483399 by decide)
  generalize (c + 6151 * e1) * 40692 % 2147483399 = v at c3 b1 b2
  have c4 : ev [] false (.op .mod [(.op .int [(.op .mul [(.nm 2), (.op .add [(.op .fdiv [(.nm 2), (.cst (.int 1223))]), (.cst (.int 52027))])])]), (.cst (.int 2147483629))]) [.val (hs cells a b c e1), .val (.p (.int m)), .val (.p (.int v)), s3, s4] = some (.rv (.p (.int (v * (v / 1223 + 52027) % 2147483629))), [.val (hs cells a b c e1), .val (.p (.int m)), .val (.p (.int v)), s3, s4]) :=
    e_bin (e_un (e_bin (e_nm rfl) (e_bin (e_bin (e_nm rfl) e_cst (x := .p (.int v)) (d := .p (.int (v / 1223))) (by simp [opD, fdivD, I]; decide)) e_cst (d := .p (.int (v / 1223 + 52027))) rfl) (x := .p (.int v)) (d := .p (.int (v * (v / 1223 + 52027)))) (big_lt97 b1 (by omega))) (d := .p (.int (v * (v / 1223 + 52027)))) rfl) e_cst (by simp [opD, modD, I])
  have b3 := Int.emod_nonneg (v * (v / 1223 + 52027)) (show (2147483629 : Int) ≠ 0 by decide)
  have b4 := Int.emod_lt_of_pos (v * (v / 1223 + 52027)) (show (0 : Int) < 2147483629 by decide)
  generalize v * (v / 1223 + 52027) % 2147483629 = w at c4 b3 b4
  have c5 : ev [] false (.op .mod [(.op .int [(.op .mul [(.nm 2), (.op .add [(.op .fdiv [(.nm 2), (.cst (.int 2671))]), (.cst (.int 69621))])])]), (.cst (.int 2147483647))]) [.val (hs cells a b c e1), .val (.p (.int m)), .val (.p (.int w)), s3, s4] = some (.rv (.p (.int (w * (w / 2671 + 69621) % 2147483647))), [.val (hs cells a b c e1), .val (.p (.int m)), .val (.p (.int w)), s3, s4]) :=
    e_bin (e_un (e_bin (e_nm rfl) (e_bin (e_bin (e_nm rfl) e_cst (x := .p (.int w)) (d := .p (.int (w / 2671))) (by simp [opD, fdivD, I]; decide)) e_cst (d := .p (.int (w / 2671 + 69621))) rfl) (x := .p (.int w)) (d := .p (.int (w * (w / 2671 + 69621)))) (big_lt97 b3 (by omega))) (d := .p (.int (w * (w / 2671 + 69621)))) rfl) e_cst (by simp [opD, modD, I])
  generalize w * (w / 2671 + 69621) % 2147483647 = u at c5
  have c6 : ev [] false (.op .mod [(.op .int [(.op .fdiv [(.nm 2), (.cst (.int 32))])]), (.nm 1)]) [.val (hs cells a b c e1), .val (.p (.int m)), .val (.p (.int u)), s3, s4] = some (.rv (.p (.int (u / 32 % m))), [.val (hs cells a b c e1), .val (.p (.int m)), .val (.p (.int u)), s3, s4]) :=
    e_bin (e_un (e_bin (e_nm rfl) e_cst (x := .p (.int u)) (d := .p (.int (u / 32))) (by simp [opD, fdivD, I]; decide)) (d := .p (.int (u / 32))) rfl) (e_nm rfl) (by simp [opD, modD, I, hm])
  exact ⟨_, e1, _, ⟨Int.emod_nonneg _ (by omega), Int.emod_lt_of_pos _ hm⟩, runs_nx (run_ite_f (t_rv c1) runs_0) (runs_nx (run_asg1 (o_rv c2) p4) (runs_nx (r_asg c3) (runs_nx (r_asg c4) (runs_nx (r_asg c5) (runs_rt (r_ret c6))))))⟩
end
theorem c_draw97 {h : D} (hh : IsHand h) {m : Int} (hm : 0 < m) (hm2 : m.natAbs.log2 < 9000) : ∃ r h', C__law_draw97 [h, .p (.int m)] = some (.p (.int r), [some h', none]) ∧ (0 ≤ r ∧ r < m) ∧ IsHand h' := by
  obtain ⟨cells, a, b, c, e, rfl⟩ := hh
  obtain ⟨a', b', c', s3', h1⟩ := draw_a97 (cells := cells) (a := a) (b := b) (c := c) (e := e) (m := m) (s2 := .no) (s3 := .no) (s4 := .no)
  by_cases hb : 0 < b'
  · exact ⟨_, _, mk_rt (ρ0 := [.val (hs cells a b c e), .val (.p (.int m)), .no, .no, .no]) rfl rfl (runs_nx h1 (draw_b97 hm hm2 hb)) rfl rfl, ⟨Int.emod_nonneg _ (by omega), Int.emod_lt_of_pos _ hm⟩, _, _, _, _, _, rfl⟩
  · obtain ⟨r, x, s2', h2, h3⟩ := draw_c97 (cells := cells) (a := a') (b := b') (c := c') (e := e) (m := m) (s2 := .no) (s3 := s3') (s4 := .no) hm hb
    exact ⟨r, _, mk_rt (ρ0 := [.val (hs cells a b c e), .val (.p (.int m)), .no, .no, .no]) rfl rfl (runs_nx h1 h3) rfl rfl, h2, _, _, _, _, _, rfl⟩
theorem cut6397 (ns : List Int) : ∃ cs : List Int, PF.cutT (ns.map T.int) none (some 63) = cs.map T.int ∧ cs.length ≤ ns.length := by
  refine ⟨((ns.drop _).take _), by unfold PF.cutT; rw [← List.map_drop, ← List.map_take], ?_⟩
  simp only [List.length_take, List.length_drop]
  omega
theorem c__law_hand97 {ns : List Int} (hn : ns.length ≤ 63) : ∃ h, C__law_hand97 [ro ns] = some (h, [some (ro ns)]) ∧ IsHand h := by
  obtain ⟨cs, hc, hl⟩ := cut6397 ns
  have e1 : ev [] false (.comp (.op .abs [(.op .int [(.nm 2)])]) (.one 2) 0 [(.op (.slice false true) [(.nm 0), (.cst (.int 63))])] []) [.val (ro ns), .no, .no] = some (.rv (.l (cs.map fun x => .p (.int (if x < 0 then -x else x)))), [.val (ro ns), .no, .no]) := by
    refine ev_compN cs (fun x => .p (.int x)) _ (w := .one (.fix (cs.map T.int))) (by simp [itemsW]) rfl (rs := [.rv (L (cs.map T.int))]) (ρ1 := [.val (ro ns), .no, .no]) ?_ (by simp only [srcK, sqOf, L, pures_map, Option.map_some]) (Nat.le_trans (by omega) (show 63 ≤ LIM from Nat.le_of_ble_eq_true rfl)) rfl fun x hx => ⟨_, rfl, rfl, ?_⟩
    · simp [ev_1, ev_2, ev_3, ev_4, ev_5, ev_6, ev_7, ev_8, ev_9, ev_10, ev_11, ev_12, ev_13, ev_15, evL_1, evL_2, ownL, evT_1, evT_2, evOwn_1, evTest_1, look, ro, vals, valR, opD, sliceD, sliceV, items, hc]
    · exact e_un (e_un (e_nm rfl) (d := .p (.int x)) rfl) rfl
  have e2 : ev [] false (.lst [(.nm 1), (.cst (.int 0)), (.cst (.int 0)), (.op .add [(.cst (.int 97)), (.op .mul [(.cst (.int 5)), (.op .len [(.nm 1)])])]), (.cst (.int 0))]) [.val (ro ns), .val (.l (cs.map fun x => .p (.int (if x < 0 then -x else x)))), .no] = some (.rv (hs (cs.map fun x => if x < 0 then -x else x) 0 0 (97 + 5 * cs.length) 0), [.val (ro ns), .no, .no]) := by
    have h5 : 5 ≤ LIM := Nat.le_of_ble_eq_true rfl
    have hm : mulD [.p (.int 5), .p (.int cs.length)] = some (.p (.int (5 * cs.length))) := big_lt97 (by decide) (by decide)
    have ha : ev [] false (.op .add [(.cst (.int 97)), (.op .mul [(.cst (.int 5)), (.op .len [(.nm 1)])])]) [.val (ro ns), .val (.l (cs.map fun x => .p (.int (if x < 0 then -x else x)))), .no] = some (.rv (.p (.int (97 + 5 * cs.length))), [.val (ro ns), .val (.l (cs.map fun x => .p (.int (if x < 0 then -x else x)))), .no]) :=
      e_bin e_cst (e_bin e_cst (e_un_nm (e_nml rfl) rfl (d := .p (.int cs.length)) (by simp [opD, lenD, I])) hm) rfl
    have hL := a_nm (e_nml (i := 1) (Γ := []) (q := false) (ρ := [.val (ro ns), .val (.l (cs.map fun x => .p (.int (if x < 0 then -x else x)))), .no]) rfl) (a_rv (e_cst (t := .int 0)) (a_rv (e_cst (t := .int 0)) (a_rv ha (a_rv (e_cst (t := .int 0)) a_nil))))
    rw [show ev [] false (.lst _) _ = _ from ev_8 .., hL]
    simp [ownL, PF.own, look, put, h5, hs]
  exact ⟨_, mk_rt (ρ0 := [.val (ro ns), .no, .no]) rfl rfl (runs_nx (r_asg e1) (runs_rt (r_ret e2))) rfl rfl, _, _, _, _, _, rfl⟩
theorem k_draw97 {h : D} {m : Int} {q : Bool} {rs : List R} {ρ : List S} {Q : R → List S → Prop} (hh : IsHand h) (hm : 0 < m) (hm2 : m < 2 ^ 60) (f : ∀ r h', IsHand h' → 0 ≤ r → r < m → KBk rs [some h', none] ρ fun ρ2 => Q (.rv (.p (.int r))) ρ2) : KF C__law_draw97 q rs [h, .p (.int m)] ρ Q := by
  obtain ⟨r, h', e, ⟨h1, h2⟩, h3⟩ := c_draw97 hh hm (by
    have := (Nat.log2_lt (n := m.natAbs) (k := 60) (by omega)).mpr (by omega)
    omega)
  exact ⟨_, _, e, (f r h' h3 h1 h2).out⟩
end CM

set_option Elab.async false
set_option linter.all false
set_option maxRecDepth 100000
set_option maxHeartbeats 0
namespace CM
open PF
-- _law_some97 ['hand', 'things']
def b__law_some97 : List PF.St := [.ret (.idx (.nm 1) (.call 0 [(.nm 0), (.op .len [(.nm 1)])]))]
def C__law_some97 : CT := mk [C__law_draw97] 2 2 b__law_some97
-- _law_table97 ['hand', 'many', 'most', 'rows', 'i', 'j', 'place', 'number', 'row']
def b__law_table97 : List PF.St := [.asg 3 (.comp (.op .mul [(.lst [(.cst (.int 0))]), (.nm 1)]) (.one 6) 1 [(.nm 1)] []), .for_ (.one 4) 1 [(.nm 1)] [.for_ (.one 5) 2 [(.op .add [(.nm 4), (.cst (.int 1))]), (.nm 1)] [.asg 7 (.op .add [(.cst (.int 1)), (.call 0 [(.nm 0), (.nm 2)])]), .asgM [.s2 3 (.nm 4) (.nm 5), .s2 3 (.nm 5) (.nm 4)] (.tup [(.nm 7), (.nm 7)])] [5, 7]] [4, 5, 7], .ret (.op .tuple [(.comp (.op .tuple [(.nm 8)]) (.one 8) 0 [(.nm 3)] [])])]
def C__law_table97 : CT := mk [C__law_draw97] 9 3 b__law_table97
-- _law_closing97 ['table', 'rows', 'many', 'middle', 'i', 'row', 'j']
def b__law_closing97 : List PF.St := [.asg 1 (.comp (.op .list [(.nm 5)]) (.one 5) 0 [(.nm 0)] []), .asg 2 (.op .len [(.nm 1)]), .for_ (.one 3) 1 [(.nm 2)] [.for_ (.one 4) 1 [(.nm 2)] [.for_ (.one 6) 1 [(.nm 2)] [.asg1 (.s2 1 (.nm 4) (.nm 6)) (.op .min2 [(.idx (.idx (.nm 1) (.nm 4)) (.nm 6)), (.op .add [(.idx (.idx (.nm 1) (.nm 4)) (.nm 3)), (.idx (.idx (.nm 1) (.nm 3)) (.nm 6))])])] [6]] [4, 6]] [3, 4, 6], .ret (.op .tuple [(.comp (.op .tuple [(.nm 5)]) (.one 5) 0 [(.nm 1)] [])])]
def C__law_closing97 : CT := mk [] 7 1 b__law_closing97
-- _law_sound97 ['hand', 'most', 'table']
def b__law_sound97 : List PF.St := [.asg 2 (.call 0 [(.nm 0), (.op .add [(.cst (.int 1)), (.call 1 [(.nm 0), (.nm 1)])]), (.call 2 [(.nm 0), (.lst [(.cst (.int 2)), (.cst (.int 4)), (.cst (.int 9)), (.cst (.int 30)), (.cst (.int 1000))])])]), .ret (.call 3 [(.nm 2)])]
def C__law_sound97 : CT := mk [C__law_table97, C__law_draw97, C__law_some97, C__law_closing97] 3 2 b__law_sound97
-- _law_length97 ['table', 'row', 'here', 'there']
def b__law_length97 : List PF.St := [.ret (.op .sum [(.comp (.idx (.idx (.nm 0) (.nm 2)) (.nm 3)) (.many [2, 3]) 4 [(.nm 1), (.op .add [(.op (.slice true false) [(.nm 1), (.cst (.int 1))]), (.op (.slice false true) [(.nm 1), (.cst (.int 1))])])] [])])]
def C__law_length97 : CT := mk [] 4 2 b__law_length97
-- _law_is ['told', 'due', 'key', 'one', 'two']
def b__law_is : List PF.St := [.ite (.op (.isi2 "tuple" "list") [(.nm 1)]) [.ite (.or_ (.op .ne [(.op (.isi "tuple") [(.nm 0)]), (.op (.isi "tuple") [(.nm 1)])]) (.not_ (.op (.isi2 "tuple" "list") [(.nm 0)]))) [.ret (.cst (.bl false))] [], .ret (.and_ (.op .eq [(.op .len [(.nm 0)]), (.op .len [(.nm 1)])]) (.op .all [(.comp (.call 0 [(.nm 3), (.nm 4)]) (.many [3, 4]) 4 [(.nm 0), (.nm 1)] [])]))] [], .ite (.op (.isi "dict") [(.nm 1)]) [.ite (.or_ (.not_ (.op (.isi "dict") [(.nm 0)])) (.op .ne [(.op .len [(.nm 0)]), (.op .len [(.nm 1)])])) [.ret (.cst (.bl false))] [], .ret (.op .all [(.comp (.and_ (.op .inn [(.nm 2), (.nm 0)]) (.call 0 [(.idx (.nm 0) (.nm 2)), (.idx (.nm 1) (.nm 2))])) (.one 2) 0 [(.nm 1)] [])])] [], .ite (.or_ (.op (.isi "str") [(.nm 1)]) (.op .is [(.nm 1), (.cst .non)])) [.ret (.and_ (.op .eq [(.op (.isi "str") [(.nm 0)]), (.op (.isi "str") [(.nm 1)])]) (.op .eq [(.nm 0), (.nm 1)]))] [], .ret (.and_ (.op (.isi "int") [(.nm 0)]) (.and_ (.op .eq [(.op (.isi "bool") [(.nm 0)]), (.op (.isi "bool") [(.nm 1)])]) (.op .eq [(.nm 0), (.nm 1)])))]
def C__law_is : CT := recC [] 5 2 b__law_is 5
local macro_rules | `(tactic| modx_arm) => `(tactic| first | (simp only [List.length_cons, List.length_nil]; exact Nat.le_of_ble_eq_true rfl) | assumption)
local macro_rules | `(tactic| top_argsB) => `(tactic| first | assumption | exact ok_tab | exact ok_row | exact ok_nat | (with_unfolding_all rfl))
local macro_rules | `(tactic| top_caughtB) => `(tactic| first | exact o_isiT rfl rfl | exact o_isiF rfl rfl)
local macro_rules | `(tactic| k_caught0) => `(tactic| first | assumption | omega | (rw [List.length_range]; first | assumption | omega) | (rw [List.length_range']; exact lim49 (by omega)))
local macro_rules | `(tactic| top_raiseB0) => `(tactic| first | exact own_rv | (dsimp only [PF.own, look, put, reduceIte, Bool.false_eq_true] <;> rfl))
local macro_rules | `(tactic| top_reprB) => `(tactic| first | (simp only [PF.bind, putAll, put, unpk, List.map, reduceIte, Bool.false_eq_true] <;> rfl) | rfl)
local macro_rules | `(tactic| top_strB) => `(tactic| (dsimp only [put, kill, Tg.own, putAll, List.map, back] <;> rfl))
local macro_rules | `(tactic| k_caughtN0) => `(tactic| first
  | exact src_one (.tup isSeq_row) | exact src_one (.tup isSeq_tab) | exact src_one (.tup isSeq_nat) | exact src_enumR (.tup isSeq_row) | exact src_enumR (.tup isSeq_tab)
  | exact src_zipR (.tup isSeq_row) (.tup isSeq_row) | exact src_zipR (.tup isSeq_tab) (.tup isSeq_tab)
  | exact src_one (.tup isSeq_map) | exact src_one (.lst isLst_map) | exact src_one (.live rfl rfl isLst_map)
  | (refine src_r1 rfl ?_; k_caught0) | (refine src_r2S rfl rfl ?_ ?_ <;> k_caught0) | (refine src_r2O rfl rfl ?_ <;> k_caught0) | (refine src_r2 rfl rfl ⟨?_, ?_⟩ ⟨?_, ?_⟩ <;> k_caught0)
  | (refine src_mat rfl rfl ?_; k_caught0) | exact src_enum (.tup isSeq_map) | exact src_zip (.tup isSeq_map) (.tup isSeq_map)
  | exact src_one (.tup isSeq_id))
local macro_rules | `(tactic| mod_arm) => `(tactic| first | assumption | (left; refine big_of ?_ ?_ <;> k_caught0) | (right; refine big_of ?_ ?_ <;> k_caught0))
local macro_rules | `(tactic| k_caughtNB) => `(tactic| first
  | (change V2 _ _ _ _ _; with_reducible first | refine v_eqI ?_ | refine v_add ?_ | refine v_sub ?_ | (refine v_mul ?_ ?_; (focus mod_arm)) | (refine v_mod ?_ ?_; (focus k_caught0)) | (refine v_fdiv ?_ ?_ ?_; (focus k_caught0); (focus k_caught0)) | refine v_neI ?_ | refine v_ltI ?_ | refine v_leI ?_ | refine v_gtI ?_ | refine v_geI ?_ | refine v_eqB ?_ | refine v_neB ?_ | refine v_isNN ?_ | refine v_isnNN ?_ | refine v_isI ?_ | refine v_isnI ?_ | refine v_isT ?_ | refine v_isnT ?_ | refine v_max2 ?_ | refine v_min2 ?_ | refine v_nin2 ?_ | refine v_in2 ?_ | (refine v_index ?_ ?_; (focus k_caught0)) | refine v_eqLi ?_ | refine v_nin_nat ?_ | refine v_in_nat ?_ | (refine v_cat1_nat ?_ ?_; (focus k_caught0)) | (refine v_cat_nat ?_ ?_; (focus k_caught0)) | (refine v_mul0 ?_ ?_; (focus k_caught0)) | (refine v_neS ?_ ?_; (focus top_argsB)) | (refine v_eqS ?_ ?_; (focus top_argsB)))
  | (change V2 _ _ _ _ _; first | refine v_isN rfl ?_ | refine v_isnN rfl ?_)
  | (change VI _ _ _ _; with_reducible first | (refine v_item_tab ?_ ?_; (focus k_caught0)) | (refine v_item_row ?_ ?_; (focus k_caught0)) | (refine v_item_at ?_ ?_; (focus k_caught0)) | refine v_fr0 ?_ | refine v_fr1 ?_ | refine v_it0 ?_ | refine v_it1 ?_ | refine v_it2 ?_ | (refine v_rowL ?_ ?_; (focus k_caught0)) | (refine v_itm ?_ ?_; (focus k_caught0)) | (refine v_itl ?_ ?_; (focus k_caught0)))
  | (change V1 _ _ _ _; with_reducible first | refine v_len_tab ?_ | refine v_len_row ?_ | refine v_len_nat ?_ | refine v_len_mat ?_ | refine v_len_rowL ?_ | refine v_len_map ?_ | refine v_len_lstM ?_ | refine v_len_lst ?_ | refine v_len_tup ?_ | refine v_all ?_ | refine v_any ?_ | refine v_sum ?_ | refine v_tuple_rowL ?_ | refine v_tuple_tab ?_ | refine v_tuple_nat ?_ | refine v_tuple_row ?_ | refine v_tuple_map ?_ | refine v_tuple_lst ?_ | refine v_list_row ?_ | refine v_list_nat ?_ | refine v_list_map ?_ | (refine v_lrng1 ?_ ?_ ?_; (focus k_caught0); (focus k_caught0)) | (refine v_trng1 ?_ ?_ ?_; (focus k_caught0); (focus k_caught0)) | (refine v_sortedP (by assumption) ?_) | refine v_abs ?_ | refine v_int ?_ | refine v_neg ?_)
  | (change V1 _ _ _ _; first | refine v_isiT rfl rfl ?_ | refine v_isiF rfl rfl ?_ | refine v_isi2 (by top_caughtB) (by top_caughtB) ?_))
local macro_rules | `(tactic| k_memK) => `(tactic| first
  | (change ∀ _, _; first | refine forall_range ?_ | refine forall_range' ?_ | intro _)
  | (change W _ _ _ _ _; first | refine W_nmP rfl ?_ | refine W_cst ?_ | refine W_op2 ?_ | refine W_op1 ?_ | (apply W_idxM rfl; (focus with_reducible rfl)) | refine W_idx ?_ | refine W_call rfl ?_ | refine W_nmL rfl rfl ?_ | (refine W_nmL rfl (hand_np ?_) ?_; (focus assumption)) | refine W_boP rfl ?_ | refine W_boL rfl rfl rfl ?_ | refine W_and ?_ | refine W_or ?_ | refine W_not ?_ | refine W_comp0 ?_ | refine W_comp1 ?_ | refine W_tup ?_ | refine W_lst ?_ | refine W_chain ?_ | refine W_op3 ?_ | refine W_mth ?_ | refine W_slc ?_)
  | (change WL _ _ _ _ _; first | refine WL_cons ?_ | refine WL_nil ?_)
  | k_caughtNB
  | (change WS _ _ _ _; first | with_reducible refine WS_appC ?_ | with_reducible refine WS_appN ?_ | refine WS_asg ?_ | refine WS_ret ?_ | refine WS_ite ?_ | refine WS_for ?_ | refine WS_exp ?_ | refine WS_asgD ?_ | refine WS_asgT ?_ | refine WS_asg1 ?_ | refine WS_asgM ?_ | refine WS_aug rfl ?_ | refine WS_app rfl ?_ | refine WS_ext rfl ?_ | refine WS_retN ?_ | refine WS_pass ?_ | with_reducible refine WS_nil ?_ | refine WS_brk ?_ | refine WS_cnt ?_)
  | refine K_2r ?_ | refine K_1r ?_ | refine K_1b ?_ | refine K_ir ?_ | refine K_1 rfl ?_ | refine K_2 rfl rfl ?_ | refine K_i rfl rfl ?_
  | (apply K_f; (focus k_caughtB); (focus top_strB)) | refine K_v rfl rfl ?_ | (apply K_w; (focus top_raiseB0)) | refine K_t rfl ?_ | (apply K_p; (focus top_strB))
  | with_reducible refine K_orT ?_ | with_reducible apply K_orF | with_reducible refine K_andF ?_ | with_reducible apply K_andT | apply K_and | apply K_or | apply K_c o_leI | apply K_c o_ltI | apply K_c o_geI | apply K_c o_gtI | apply K_c o_eqI
  | exact isB_ | exact isV_ | exact ans_ | exact K_ce o_leI | exact K_ce o_ltI | exact K_ce o_geI | exact K_ce o_gtI | exact K_ce o_eqI | refine K_fr rfl ?_ | refine K_fn rfl ?_
  | (apply K_m0; (focus top_strB); (focus k_caughtN0); (focus k_caught0)) | (apply K_m1; (focus top_strB); (focus k_caughtN0); (focus k_caught0))
  | (apply K_e; (focus top_reprB)) | (apply K_ec; (focus top_reprB)) | (apply K_n; (focus top_raiseB0); (focus rfl))
  | (refine K_lm ?_ ?_; (focus modx_arm)) | (apply K_tu; (focus (simp only [pures, Option.map_some] <;> rfl)); (focus modx_arm)) | refine K_oN ?_ | (apply K_oC; (focus top_raiseB0)) | refine K_3 rfl rfl rfl ?_ | (refine K_im rfl rfl ?_ ?_; (focus k_caught0)) | refine K_sn ?_ | refine K_s2 ?_ | refine K_s1 ?_ | (apply K_st2m rfl; (focus with_reducible rfl); (focus rfl); (focus rfl); (focus k_caught0); (focus k_caught0); (focus top_strB)) | (apply K_bb; (focus top_strB)) | refine K_ssC ?_ | refine K_ssN ?_
  | (apply K_ps; (focus top_strB)) | (apply K_u; (focus rfl)) | (apply K_um; (focus (simp only [List.map_cons, List.map_nil] <;> rfl))) | (apply K_ap rfl; (focus k_caught0); (focus top_strB)) | (apply K_ex rfl; (focus k_caught0); (focus top_strB)) | refine K_if rfl ?_ ?_
  | (apply K_nx; (focus top_strB)) | (apply K_ct; (focus top_strB)) | (apply K_bk; (focus top_strB)) | refine K_rt ?_ | (with_reducible apply K_b; (focus top_reprB)) | with_reducible rfl | refine And.intro rfl (And.intro rfl ?_) | refine K_mt rfl rfl rfl ?_ | refine K_sl1 rfl ?_)
local macro_rules | `(tactic| fold_depth) => `(tactic| (apply Sp_mk; (focus rfl); (focus (dsimp only [startS, List.map, List.length, Nat.zero_add, Nat.reduceAdd, Nat.reduceSub, List.replicate, List.cons_append, List.nil_append] <;> rfl)); (focus (simp only [stsO, stO, Tgt.st, Tg.own, List.flatMap_cons, List.flatMap_nil, List.append_nil, List.nil_append, List.cons_append] <;> rfl))))
local macro_rules | `(tactic| top_caught0) => `(tactic| first
  | (refine srcF_r1 rfl ?_; k_caught0) | (refine srcF_r2S rfl rfl ?_ ?_ <;> k_caught0) | (refine srcF_r2 rfl rfl ⟨?_, ?_⟩ ⟨?_, ?_⟩ <;> k_caught0)
  | exact srcF_one (.tup isSeq_row) | exact srcF_one (.tup isSeq_tab) | exact srcF_one (.tup isSeq_nat) | exact srcF_enumR (.tup isSeq_row) | exact srcF_enumR (.tup isSeq_tab)
  | exact srcF_zipR (.tup isSeq_row) (.tup isSeq_row) | exact srcF_zipR (.tup isSeq_tab) (.tup isSeq_tab)
  | exact srcF_one (.live rfl (fun _ h => by rw [h]; rfl) rfl isLst_map) | exact srcF_one (.lst isLst_map) | exact srcF_one (.tup isSeq_map) | exact srcF_one (.tup isSeq_id))
local macro_rules | `(tactic| top_raise0) => `(tactic| (apply K_foS; (focus top_strB); (focus top_caught0)))

local macro_rules | `(tactic| k_memK) => `(tactic| (refine k_draw97 ?_ ?_ ?_ ?_; (focus assumption); (focus k_caught0); (focus k_caught0); intro r h hh hr0 hr1))
section
variable {n m : Nat} {f g : Nat → Nat → Int} {xs : List Nat}
/-! ### one of some -/
theorem k_some97 {α : Type} {enc : α → T} {h : D} {q : Bool} {rs : List R} {ρ : List S} {Q : R → List S → Prop} {F : List α} (hh : IsHand h) (h1 : 0 < F.length) (h2 : F.length < 2 ^ 59) (f : ∀ h' a, IsHand h' → a ∈ F → KBk rs [some h', some (.l (F.map fun a => .p (enc a)))] ρ fun ρ2 => Q (.rv (.p (enc a))) ρ2) : KF C__law_some97 q rs [h, .l (F.map fun a => .p (enc a))] ρ Q := by
  refine K_fs ?_
  delta C__law_some97 b__law_some97
  fold_depth
  repeat k_memK
  rename_i r h' hh' hr0 hr1
  obtain ⟨k, rfl⟩ : ∃ k : Nat, r = k := ⟨r.toNat, by omega⟩
  have hk : k < F.length := by omega
  repeat k_memK
  rw [show left [] 0 [h, D.l (F.map fun a => .p (enc a))] [S.val h', S.val (D.l (F.map fun a => .p (enc a)))] = [some h', some (.l (F.map fun a => .p (enc a)))] by simp only [left, hand_np hh]; simp [look, isP]]
  exact (f h' _ hh' (List.getElem_mem hk)).out
/-! ### a drawn table, row by row above -/
structure RawU (top : Int) (n i j : Nat) (g : Nat → Nat → Int) : Prop where
  sy : ∀ a b, g a b = g b a
  dz : ∀ a, g a a = 0
  ok : ∀ a b, a < b → b < n → (a < i ∨ (a = i ∧ b < j)) → 1 ≤ g a b ∧ g a b ≤ top
theorem RawU.step {top : Int} {i j : Nat} {g : Nat → Nat → Int} {v : Int} (h : RawU top n i j g) (hj : i < j) (hv : 1 ≤ v ∧ v ≤ top) : RawU top n i (j + 1) (upd2 (upd2 g i j v) j i v) := by
  refine ⟨fun a b => ?_, fun a => ?_, fun a b hab hb hd => ?_⟩
  · have := h.sy a b
    unfold upd2
    repeat' split
    all_goals first | rfl | omega
  · have := h.dz a
    unfold upd2
    repeat' split
    all_goals first | rfl | omega
  · unfold upd2
    by_cases e : a = i ∧ b = j
    · rw [if_neg (by omega), if_pos e]; exact hv
    · rw [if_neg (by omega), if_neg e]
      exact h.ok a b hab hb (by omega)
theorem RawU.tab {n : Nat} {top : Int} {g : Nat → Nat → Int} (k2 : RawU top n n 0 g) (h1 : 1 ≤ n) (h7 : n ≤ 7) (ht : top ≤ 1000) : Tab n g := by
  have ok : ∀ a b, a ≠ b → a < n → b < n → 1 ≤ g a b ∧ g a b ≤ top := fun a b hab ha hb => by
    rcases Nat.lt_or_gt_of_ne hab with z | z
    · exact k2.ok a b z hb (.inl ha)
    · rw [k2.sy a b]; exact k2.ok b a z ha (.inl hb)
  refine ⟨h1, h7, fun i j hi hj => ?_, fun i j hi hj => ⟨fun e => ?_, fun e => by rw [e]; exact k2.dz j⟩, fun i j _ _ => k2.sy i j⟩
  · by_cases e : i = j
    · subst e; rw [k2.dz]; omega
    · have := ok i j e hi hj; omega
  · by_cases e2 : i = j
    · exact e2
    · have := ok i j e2 hi hj; omega
theorem range'_at {s k : Nat} {pre post : List Nat} {x : Nat} (h : List.range' s k = pre ++ x :: post) : x = s + pre.length ∧ pre.length < k := by
  have hl : pre.length < k := by have := congrArg List.length h; simp at this; omega
  have h2 : (List.range' s k)[pre.length]? = some x := by rw [h]; simp
  rw [List.getElem?_range' hl] at h2
  simp at h2
  omega
theorem k_table97 {h : D} {q : Bool} {rs : List R} {ρ : List S} {Q : R → List S → Prop} {top : Int} (hh : IsHand h) (h1 : 1 ≤ n) (h7 : n ≤ 7) (ht : 0 < top) (ht2 : top ≤ 1000) (F : ∀ h' g, IsHand h' → Tab n g → KBk rs [some h', none, none] ρ fun ρ2 => Q (.rv (.p (tabT n g))) ρ2) : KF C__law_table97 q rs [h, .p (.int n), .p (.int top)] ρ Q := by
  refine K_fs ?_
  have hl := lim7 h7
  delta C__law_table97 b__law_table97
  fold_depth
  repeat k_memK
  refine K_foR (n := n) (fun i ρ => ∃ h g, IsHand h ∧ RawU top n i 0 g ∧ ρ = [.val h, .val (.p (.int n)), .val (.p (.int top)), .val (matD n g), .no, .no, .no, .no, .no]) (by top_strB) (srcF_r1 rfl (by omega)) ⟨h, fun _ _ => 0, hh, ⟨fun _ _ => rfl, fun _ => rfl, fun a b hab hb hd => by omega⟩, rfl⟩ ?_ ?_
  · rintro i ρ hi ⟨h, g, hh, hg, rfl⟩
    refine K_b (by top_reprB) ?_
    repeat k_memK
    refine K_fo (xs := List.range' (i + 1) (n - (i + 1))) (enc := fun (j : Nat) => .p (.int j)) (fun pre ρ => ∃ h g, IsHand h ∧ RawU top n i (i + 1 + pre.length) g ∧ ρ = [.val h, .val (.p (.int n)), .val (.p (.int top)), .val (matD n g), .val (.p (.int (i : Nat))), .no, .no, .no, .no]) (by top_strB) (srcF_r2S rfl rfl (by omega) (by omega)) ⟨h, g, hh, ⟨hg.sy, hg.dz, fun a b hab hb hd => hg.ok a b hab hb (by simp at hd; omega)⟩, rfl⟩ ?_ ?_
    · rintro pre j post ρ hx ⟨h, g, hh, hg, rfl⟩
      obtain ⟨hj, hj2⟩ := range'_at hx
      rw [← hj] at hg
      have hjn : j < n := by omega
      refine K_b (by top_reprB) ?_
      repeat k_memK
      rw [show i + 1 + (pre ++ [j]).length = j + 1 by simp; omega]
      rename_i r h9 hh9 hr0 hr1
      exact ⟨_, _, by assumption, hg.step (v := 1 + r) (by omega) (by omega), rfl⟩
    · rintro ρ ⟨h, g, hh, hg, rfl⟩
      repeat k_memK
      exact ⟨h, g, hh, ⟨hg.sy, hg.dz, fun a b hab hb hd => hg.ok a b hab hb (by simp; omega)⟩, rfl⟩
  · rintro ρ ⟨h', g, hh', hg, rfl⟩
    repeat k_memK
    rw [show left [3, 4, 5, 7] 0 [h, .p (.int n), .p (.int top)] [.val h', .val (.p (.int n)), .val (.p (.int top)), .val (matD n g), .no, .no, .no, .no, .no] = [some h', none, none] by simp only [left, hand_np hh]; simp [look, isP]]
    exact (F h' g hh' (hg.tab h1 h7 ht2)).out
/-! ### ways through places -/
def clo (m : Nat) (g : Nat → Nat → Int) (a b : Nat) : Int := min (g a b) (g a m + g m b)
def cloM (f : Nat → Nat → Int) : Nat → Nat → Nat → Int
  | 0 => f
  | m + 1 => clo m (cloM f m)
def part (m : Nat) (g : Nat → Nat → Int) (i j a b : Nat) : Int := if a < i ∨ (a = i ∧ b < j) then clo m g a b else g a b
theorem matD_congr {g g' : Nat → Nat → Int} (h : ∀ a b, a < n → b < n → g a b = g' a b) : matD n g = matD n g' := by
  unfold matD rowL
  congr 1
  refine List.map_congr_left fun a ha => ?_
  have ha := List.mem_range.mp ha
  congr 1
  refine List.map_congr_left fun b hb => ?_
  rw [h a b ha (List.mem_range.mp hb)]
theorem tab_clo (t : Tab n g) (hm : m < n) : Tab n (CM.clo m g) := by
  have nn : ∀ i j, i < n → j < n → 0 ≤ g i j := fun i j hi hj => (t.b0 i j hi hj).1
  refine ⟨t.n1, t.n7, fun i j hi hj => ?_, fun i j hi hj => ?_, fun i j hi hj => ?_⟩
  · have := t.b0 i j hi hj; have := nn i m hi hm; have := nn m j hm hj
    unfold CM.clo; omega
  · have h1 := t.b0 i j hi hj; have h2 := nn i m hi hm; have h3 := nn m j hm hj
    have d1 := t.dz i j hi hj
    have d2 := t.dz i m hi hm
    have d3 := t.dz m j hm hj
    unfold CM.clo
    constructor
    · intro e
      by_cases e1 : g i j = 0
      · exact d1.mp e1
      · have e2 := d2.mp (by omega)
        have e3 := d3.mp (by omega)
        omega
    · intro e
      have := d1.mpr e
      omega
  · unfold CM.clo
    rw [t.sy i j hi hj, t.sy i m hi hm, t.sy m j hm hj]
    omega
theorem tab_cloM (t : Tab n f) : ∀ m, m ≤ n → Tab n (CM.cloM f m)
  | 0, _ => t
  | m + 1, h => tab_clo (tab_cloM t m (by omega)) (by omega)
theorem clo_snd (t : Tab n f) : ∀ m, m ≤ n → ∀ k, k < m → ∀ i j, i < n → j < n → CM.cloM f m i j ≤ CM.cloM f m i k + CM.cloM f m k j
  | 0, _, k, hk, _, _, _, _ => by omega
  | m + 1, h, k, hk, i, j, hi, hj => by
    have t' := tab_cloM t m (by omega)
    have ih := clo_snd t m (by omega)
    have hm : m < n := by omega
    have hk' : k < n := by omega
    have z := (t'.dz m m hm hm).mpr rfl
    have nn : ∀ i j, i < n → j < n → 0 ≤ CM.cloM f m i j := fun i j hi hj => (t'.b0 i j hi hj).1
    simp only [CM.cloM, CM.clo]
    have n1 := nn m k hm hk'
    have n2 := nn k m hk' hm
    have n3 := nn i m hi hm
    have n4 := nn m j hm hj
    by_cases e : k = m
    · subst e
      omega
    · have a1 := ih k (by omega) i j hi hj
      have a2 := ih k (by omega) m j hm hj
      have a3 := ih k (by omega) i m hi hm
      omega
theorem c__law_closing97 (t : Tab n f) : C__law_closing97 [.p (tabT n f)] = some (.p (tabT n (CM.cloM f n)), [none]) := by
  refine Sp.eq ?_
  have h1 := t.n1
  have h7 := t.n7
  have hl := lim7 h7
  delta C__law_closing97 b__law_closing97
  fold_depth
  repeat k_memK
  rw [List.length_range]
  refine K_foR (n := n) (fun m ρ => ρ = [.val (.p (tabT n f)), .val (matD n (CM.cloM f m)), .val (.p (.int n)), .no, .no, .no, .no]) (by top_strB) (srcF_r1 rfl (by omega)) rfl ?_ ?_
  · rintro m ρ hm rfl
    have t' := tab_cloM t m (by omega)
    generalize hg : CM.cloM f m = g at t' ⊢
    have z := (t'.dz m m hm hm).mpr rfl
    refine K_b (by top_reprB) ?_
    repeat k_memK
    refine K_foR (n := n) (fun i ρ => ρ = [.val (.p (tabT n f)), .val (matD n (part m g i 0)), .val (.p (.int n)), .val (.p (.int (m : Nat))), .no, .no, .no]) (by top_strB) (srcF_r1 rfl (by omega)) (by rw [show part m g 0 0 = g by funext a b; simp [part]]) ?_ ?_
    · rintro i ρ hi rfl
      refine K_b (by top_reprB) ?_
      repeat k_memK
      refine K_foR (n := n) (fun j ρ => ρ = [.val (.p (tabT n f)), .val (matD n (part m g i j)), .val (.p (.int n)), .val (.p (.int (m : Nat))), .val (.p (.int (i : Nat))), .no, .no]) (by top_strB) (srcF_r1 rfl (by omega)) rfl ?_ ?_
      · rintro j ρ hj rfl
        refine K_b (by top_reprB) ?_
        repeat k_memK
        have e1 : part m g i j i j = g i j := by unfold part; rw [if_neg (by omega)]
        have e2 : part m g i j i m = g i m := by
          unfold part CM.clo
          rw [z]
          split <;> omega
        have e3 : part m g i j m j = g m j := by
          unfold part CM.clo
          rw [z]
          split <;> omega
        rw [e1, e2, e3, show upd2 (part m g i j) i j (min (g i j) (g i m + g m j)) = part m g i (j + 1) by
          funext a b
          unfold upd2
          by_cases e : a = i ∧ b = j
          · rw [if_pos e, e.1, e.2]
            unfold part
            rw [if_pos (by omega)]
            rfl
          · rw [if_neg e]
            unfold part
            congr 1
            simp
            omega]
      · rintro ρ rfl
        repeat k_memK
        rw [matD_congr (g := part m g i n) (g' := part m g (i + 1) 0) fun a b ha hb => by unfold part; congr 1; simp; omega]
    · rintro ρ rfl
      repeat k_memK
      rw [matD_congr (g := part m g n 0) (g' := CM.cloM f (m + 1)) fun a b ha hb => by unfold part; rw [if_pos (.inl ha), CM.cloM, hg]]
  · rintro ρ rfl
    repeat k_memK
end
end CM

set_option Elab.async false
set_option linter.all false
set_option maxRecDepth 100000
set_option maxHeartbeats 0
namespace CM
open PF
/-! ### rounds, plainly -/
section
variable {n : Nat} {f : Nat → Nat → Int} {xs : List Nat}
def lenF (f : Nat → Nat → Int) (row : List Nat) : Int := ((row.zip (row.drop 1 ++ row.take 1)).map fun p => f p.1 p.2).sum
def pathF (f : Nat → Nat → Int) (row : List Nat) : Int := ((row.zip (row.drop 1)).map fun p => f p.1 p.2).sum
def from0 (row : List Nat) : Bool := decide (at0 row 0 = 0)
theorem len_rot1 (a : Nat) (l : List Nat) : lenF f (l ++ [a]) = lenF f (a :: l) := by
  cases l with
  | nil => rfl
  | cons b l =>
    have e : (b :: (l ++ [a])).zip ((l ++ [a]) ++ [b]) = (b :: l).zip (l ++ [a]) ++ [(a, b)] := by
      rw [show b :: (l ++ [a]) = (b :: l) ++ [a] by simp]
      rw [List.zip_append (by simp)]
      rfl
    simp only [lenF, List.cons_append, List.drop_one, List.tail_cons, List.take_succ_cons, List.take_zero]
    rw [e]
    simp only [List.zip_cons_cons, List.map_append, List.map_cons, List.map_nil, List.sum_append, List.sum_cons, List.sum_nil]
    omega
theorem len_rot : ∀ (pre post : List Nat), lenF f (post ++ pre) = lenF f (pre ++ post)
  | [], post => by simp
  | a :: pre, post => by
    have h1 := len_rot pre (post ++ [a])
    rw [show (post ++ [a]) ++ pre = post ++ a :: pre by simp] at h1
    rw [h1, List.cons_append, ← List.append_assoc]
    exact len_rot1 a (pre ++ post)
theorem to0 (p : Pm n xs) (h : 0 < n) : ∃ ys, Pm n ys ∧ from0 ys = true ∧ lenF f ys = lenF f xs := by
  obtain ⟨pre, post, e⟩ := List.append_of_mem (p.mem h)
  have pe : (0 :: post ++ pre).Perm xs := by rw [e]; exact List.perm_append_comm
  refine ⟨0 :: post ++ pre, ⟨by rw [pe.length_eq, p.len], pe.nodup_iff.mpr p.nd, fun x hx => p.lt x (pe.mem_iff.mp hx)⟩, by simp [from0, at0], ?_⟩
  rw [e]
  exact len_rot pre (0 :: post)
/-- those from 0 stand first -/
theorem split0 : ∀ (l : List (List Nat)), (l.Pairwise fun a b => lexN a b = true) → (∀ x ∈ l, 0 < x.length) → ∃ r, l = l.filter from0 ++ r ∧ ∀ y ∈ r, from0 y = false
  | [], _, _ => ⟨[], rfl, by simp⟩
  | a :: l, h, hl => by
    rw [List.pairwise_cons] at h
    by_cases e : from0 a = true
    · obtain ⟨r, h1, h2⟩ := split0 l h.2 fun x hx => hl x (by simp [hx])
      refine ⟨r, ?_, h2⟩
      rw [List.filter_cons_of_pos e, List.cons_append, ← h1]
    · have no : ∀ y ∈ l, from0 y = false := fun y hy => by
        cases k : from0 y with
        | false => rfl
        | true =>
          have h3 := h.1 y hy
          have l1 := hl a (by simp)
          have l2 := hl y (by simp [hy])
          cases a with
          | nil => simp at l1
          | cons a0 ar => cases y with
            | nil => simp at l2
            | cons y0 yr =>
              simp [from0, at0] at e k
              subst k
              simp only [lexN] at h3
              by_cases e0 : a0 < 0
              · omega
              · simp [e] at h3
      refine ⟨a :: l, ?_, fun y hy => ?_⟩
      · rw [List.filter_cons_of_neg e, List.filter_eq_nil_iff.mpr fun y hy => by rw [no y hy]; simp]
        rfl
      · rcases List.mem_cons.mp hy with h | h
        · rw [h]; simpa using e
        · exact no y h
theorem fmin_more {α : Type} {lt : α → α → Bool} {r : List α} {x : α} : ∀ (s : List α), (∀ y ∈ s, lt y (fmin lt x r) = false) → fmin lt x (r ++ s) = fmin lt x r := by
  intro s
  induction s generalizing r with
  | nil => intro _; simp
  | cons y s ih =>
    intro h
    rw [show r ++ y :: s = (r ++ [y]) ++ s by simp]
    have e : fmin lt x (r ++ [y]) = fmin lt x r := by rw [fmin_app, h y (by simp)]; rfl
    rw [ih fun z hz => by rw [e]; exact h z (by simp [hz]), e]
/-- the first of the least -/
theorem fmin_cut {α : Type} (c : α → Int) (x : α) : ∀ (r : List α), ∃ pre post, x :: r = pre ++ fmin (fun a b => decide (c a < c b)) x r :: post ∧ (∀ z ∈ pre, c (fmin (fun a b => decide (c a < c b)) x r) < c z) ∧ ∀ z ∈ x :: r, c (fmin (fun a b => decide (c a < c b)) x r) ≤ c z := by
  intro r
  have rev : ∀ (m : Nat) (r : List α), r.length = m → ∃ pre post, x :: r = pre ++ fmin (fun a b => decide (c a < c b)) x r :: post ∧ (∀ z ∈ pre, c (fmin (fun a b => decide (c a < c b)) x r) < c z) ∧ ∀ z ∈ x :: r, c (fmin (fun a b => decide (c a < c b)) x r) ≤ c z := by
    intro m
    induction m with
    | zero =>
      intro r hr
      cases r with
      | nil => exact ⟨[], [], rfl, by simp, by simp [fmin]⟩
      | cons _ _ => simp at hr
    | succ m ih =>
      intro r hr
      rcases List.eq_nil_or_concat r with e | ⟨s, y, e⟩
      · rw [e] at hr; simp at hr
      · rw [List.concat_eq_append] at e
        subst e
        obtain ⟨pre, post, h1, h2, h3⟩ := ih s (by simpa using hr)
        rw [fmin_app]
        by_cases k : c y < c (fmin (fun a b => decide (c a < c b)) x s)
        · rw [if_pos (by simpa using k)]
          refine ⟨x :: s, [], by simp, fun z hz => ?_, fun z hz => ?_⟩
          · have := h3 z hz; omega
          · rw [← List.cons_append] at hz
            rcases List.mem_append.mp hz with h | h
            · have := h3 z h; omega
            · have : z = y := by simpa using h
              rw [this]; omega
        · rw [if_neg (by simpa using k)]
          refine ⟨pre, post ++ [y], by rw [← List.cons_append, h1]; simp, h2, fun z hz => ?_⟩
          rw [← List.cons_append] at hz
          rcases List.mem_append.mp hz with h | h
          · exact h3 z h
          · have : z = y := by simpa using h
            rw [this]; omega
  exact rev r.length r rfl
theorem mn_eq {l : List Int} {m : Int} (h : m ∈ l) (h2 : ∀ z ∈ l, m ≤ z) : mnOf l = m :=
  Int.le_antisymm (mnOf_le h) (h2 _ (mnOf_mem (by intro e; rw [e] at h; simp at h)))
theorem idx_first {α : Type} (c : α → Int) (x : α) (r : List α) : mnOf ((x :: r).map c) = c (fmin (fun a b => decide (c a < c b)) x r) ∧ ((x :: r).map c).idxOf (c (fmin (fun a b => decide (c a < c b)) x r)) < (x :: r).length ∧ (x :: r)[((x :: r).map c).idxOf (c (fmin (fun a b => decide (c a < c b)) x r))]? = some (fmin (fun a b => decide (c a < c b)) x r) := by
  obtain ⟨pre, post, h1, h2, h3⟩ := fmin_cut c x r
  refine ⟨mn_eq (List.mem_map.mpr ⟨_, fmin_mem _ _ _, rfl⟩) fun z hz => ?_, ?_⟩
  · obtain ⟨y, hy, rfl⟩ := List.mem_map.mp hz
    exact h3 y hy
  · generalize fmin (fun a b => decide (c a < c b)) x r = m at h1 h2 h3
    rw [h1, List.map_append, List.map_cons]
    have hn : c m ∉ pre.map c := fun h => by
      obtain ⟨z, hz, e⟩ := List.mem_map.mp h
      have := h2 z hz
      omega
    rw [List.idxOf_append, if_neg hn, List.idxOf_cons_self]
    simp
/-- the least of all is the least of those from 0 -/
theorem least0 (hn : 0 < n) {x y : List Nat} {r s : List (List Nat)} (hx : (rowsN n n).filter from0 = x :: r) (hy : rowsN n n = y :: s) : fmin (fun a b => decide (lenF f a < lenF f b)) y s = fmin (fun a b => decide (lenF f a < lenF f b)) x r := by
  obtain ⟨q, h1, h2⟩ := split0 (rowsN n n) (rowsN_lex n n) fun x hx => by rw [(rowsN_pm x hx).len]; exact hn
  rw [hx, hy] at h1
  rw [List.cons_append, List.cons.injEq] at h1
  obtain ⟨rfl, rfl⟩ := h1
  refine fmin_more q fun z hz => ?_
  have pz := rowsN_pm z (by rw [hy]; simp [hz])
  obtain ⟨w, pw, w0, wl⟩ := to0 (f := f) pz hn
  have hw : w ∈ y :: r := by rw [← hx]; exact List.mem_filter.mpr ⟨pw.inRows, w0⟩
  obtain ⟨_, _, _, _, h3⟩ := fmin_cut (lenF f) y r
  have := h3 w hw
  simp
  omega
theorem zip_map {α β : Type} (c : α → β) : ∀ l : List α, l.zip (l.map c) = l.map fun a => (a, c a)
  | [] => rfl
  | a :: l => by simp [zip_map c l]
theorem from0_some (hn : 0 < n) : ∃ x r, (rowsN n n).filter from0 = x :: r := by
  obtain ⟨y, s, hy⟩ : ∃ y s, rowsN n n = y :: s := by
    have := names_pos n
    cases h : rowsN n n with
    | nil => rw [h] at this; simp at this
    | cons x r => exact ⟨x, r, rfl⟩
  obtain ⟨w, pw, w0, _⟩ := to0 (f := fun _ _ => 0) (rowsN_pm y (by rw [hy]; simp)) hn
  cases h : (rowsN n n).filter from0 with
  | nil =>
    have : w ∈ (rowsN n n).filter from0 := List.mem_filter.mpr ⟨pw.inRows, w0⟩
    rw [h] at this; simp at this
  | cons x r => exact ⟨x, r, rfl⟩
/-- from i to j -/
def fromTo (i j : Nat) (row : List Nat) : Bool := decide (at0 row 0 = i) && decide (at0 row (row.length - 1) = j)
theorem ft_some {i j : Nat} (hi : i < n) (hj : j < n) (h : i ≠ j ∨ n = 1) : ∃ x r, (rowsN n n).filter (fromTo i j) = x :: r := by
  have : ∃ w, Pm n w ∧ fromTo i j w = true := by
    by_cases e : i = j
    · have hn : n = 1 := by omega
      refine ⟨[0], ⟨by simp [hn], by simp, by simp; omega⟩, ?_⟩
      simp [fromTo, at0]
      omega
    · have e1 : (j :: i :: (List.range n).filter fun k => decide (k ≠ i ∧ k ≠ j)).Perm (List.range n) := by
        refine (List.perm_ext_iff_of_nodup ?_ List.nodup_range).mpr fun k => ?_
        · rw [List.nodup_cons, List.nodup_cons]
          refine ⟨?_, ?_, List.nodup_range.filter _⟩
          · simp; exact fun z => e z.symm
          · simp
        · simp only [List.mem_cons, List.mem_filter, List.mem_range, decide_eq_true_eq]
          constructor
          · rintro (h | h | h)
            · omega
            · omega
            · exact h.1
          · intro h
            by_cases z1 : k = j
            · exact .inl z1
            · by_cases z2 : k = i
              · exact .inr (.inl z2)
              · exact .inr (.inr ⟨h, z2, z1⟩)
      generalize (List.range n).filter (fun k => decide (k ≠ i ∧ k ≠ j)) = m at e1
      have e2 : (i :: m ++ [j]).Perm (List.range n) := (List.perm_append_singleton j (i :: m)).trans e1
      refine ⟨i :: m ++ [j], ⟨by rw [e2.length_eq, List.length_range], e2.nodup_iff.mpr List.nodup_range, fun x hx => List.mem_range.mp (e2.mem_iff.mp hx)⟩, ?_⟩
      simp [fromTo, at0]
  obtain ⟨w, pw, hw⟩ := this
  cases h : (rowsN n n).filter (fromTo i j) with
  | nil =>
    have : w ∈ (rowsN n n).filter (fromTo i j) := List.mem_filter.mpr ⟨pw.inRows, hw⟩
    rw [h] at this; simp at this
  | cons x r => exact ⟨x, r, rfl⟩
end
end CM

set_option Elab.async false
set_option linter.all false
set_option maxRecDepth 100000
set_option maxHeartbeats 0
namespace CM
open PF
-- check_round ['table', 'thing']
def b_check_round : List PF.St := [.exp (.call 0 [(.nm 0)]), .ite (.not_ (.call 1 [(.nm 1), (.op .len [(.nm 0)])])) [.fail] []]
def C_check_round : CT := mk [C_check_sound, C_are_all] 2 2 b_check_round
-- raw_length ['table', 'row', 'i', 'j']
def b_raw_length : List PF.St := [.ret (.op .sum [(.comp (.idx (.idx (.nm 0) (.nm 2)) (.nm 3)) (.many [2, 3]) 4 [(.nm 1), (.op .add [(.op (.slice true false) [(.nm 1), (.cst (.int 1))]), (.op (.slice false true) [(.nm 1), (.cst (.int 1))])])] [])])]
def C_raw_length : CT := mk [] 4 2 b_raw_length
-- length_of ['table', 'thing']
def b_length_of : List PF.St := [.exp (.call 0 [(.nm 0), (.nm 1)]), .ret (.call 1 [(.nm 0), (.nm 1)])]
def C_length_of : CT := mk [C_check_round, C_raw_length] 2 2 b_length_of
-- rounds_from ['table', 'row']
def b_rounds_from : List PF.St := [.ret (.comp (.nm 1) (.one 1) 0 [(.call 0 [(.op .lrng1 [(.op .len [(.nm 0)])])])] [(.op .eq [(.idx (.nm 1) (.cst (.int 0))), (.cst (.int 0))])])]
def C_rounds_from : CT := mk [C_all_rows] 2 1 b_rounds_from
-- raw_least ['table', 'row']
def b_raw_least : List PF.St := [.ret (.op .min1 [(.comp (.tup [(.call 1 [(.nm 0), (.nm 1)]), (.nm 1)]) (.one 1) 0 [(.call 0 [(.nm 0)])] [])])]
def C_raw_least : CT := mk [C_rounds_from, C_raw_length] 2 1 b_raw_least
-- least_round ['table']
def b_least_round : List PF.St := [.exp (.call 0 [(.nm 0)]), .ret (.call 1 [(.nm 0)])]
def C_least_round : CT := mk [C_check_sound, C_raw_least] 1 1 b_least_round
-- how_many_least ['table', 'lengths', 'row']
def b_how_many_least : List PF.St := [.exp (.call 0 [(.nm 0)]), .asg 1 (.comp (.call 2 [(.nm 0), (.nm 2)]) (.one 2) 0 [(.call 1 [(.nm 0)])] []), .ret (.mth .count (.nm 1) (.op .min1 [(.nm 1)]))]
def C_how_many_least : CT := mk [C_check_sound, C_rounds_from, C_raw_length] 3 1 b_how_many_least
-- least_path ['table', 'i', 'j', 'place', 'rows', 'row', 'a', 'b']
def b_least_path : List PF.St := [.exp (.call 0 [(.nm 0)]), .for_ (.one 3) 0 [(.tup [(.nm 1), (.nm 2)])] [.ite (.not_ (.call 1 [(.nm 3), (.cst (.int 0)), (.op .sub [(.op .len [(.nm 0)]), (.cst (.int 1))])])) [.fail] []] [3], .ite (.and_ (.op .eq [(.nm 1), (.nm 2)]) (.op .gt [(.op .len [(.nm 0)]), (.cst (.int 1))])) [.fail] [], .asg 4 (.comp (.nm 5) (.one 5) 0 [(.call 2 [(.op .lrng1 [(.op .len [(.nm 0)])])])] [(.and_ (.op .eq [(.idx (.nm 5) (.cst (.int 0))), (.nm 1)]) (.op .eq [(.idx (.nm 5) (.op .neg [(.cst (.int 1))])), (.nm 2)]))]), .ret (.op .min1 [(.comp (.tup [(.op .sum [(.comp (.idx (.idx (.nm 0) (.nm 6)) (.nm 7)) (.many [6, 7]) 4 [(.nm 5), (.op (.slice true false) [(.nm 5), (.cst (.int 1))])] [])]), (.nm 5)]) (.one 5) 0 [(.nm 4)] [])])]
def C_least_path : CT := mk [C_check_sound, C_is_within, C_all_rows] 8 3 b_least_path
local macro_rules | `(tactic| modx_arm) => `(tactic| first | (simp only [List.length_cons, List.length_nil]; exact Nat.le_of_ble_eq_true rfl) | assumption)
local macro_rules | `(tactic| top_argsB) => `(tactic| first | assumption | exact ok_tab | exact ok_row | exact ok_nat | (with_unfolding_all rfl))
local macro_rules | `(tactic| top_caughtB) => `(tactic| first | exact o_isiT rfl rfl | exact o_isiF rfl rfl)
local macro_rules | `(tactic| k_caught0) => `(tactic| first | assumption | omega | (rw [List.length_range]; first | assumption | omega) | (rw [List.length_range']; exact lim49 (by omega)))
local macro_rules | `(tactic| top_raiseB0) => `(tactic| first | exact own_rv | (dsimp only [PF.own, look, put, reduceIte, Bool.false_eq_true] <;> rfl))
local macro_rules | `(tactic| top_reprB) => `(tactic| first | (simp only [PF.bind, putAll, put, unpk, List.map, reduceIte, Bool.false_eq_true] <;> rfl) | rfl)
local macro_rules | `(tactic| top_strB) => `(tactic| (dsimp only [put, kill, Tg.own, putAll, List.map, back] <;> rfl))
local macro_rules | `(tactic| k_caughtN0) => `(tactic| first
  | exact src_one (.tup isSeq_row) | exact src_one (.tup isSeq_tab) | exact src_one (.tup isSeq_nat) | exact src_enumR (.tup isSeq_row) | exact src_enumR (.tup isSeq_tab)
  | exact src_zipR (.tup isSeq_row) (.tup isSeq_row) | exact src_zipR (.tup isSeq_tab) (.tup isSeq_tab)
  | exact src_one (.tup isSeq_map) | exact src_one (.lst isLst_map) | exact src_one (.live rfl rfl isLst_map)
  | (refine src_r1 rfl ?_; k_caught0) | (refine src_r2S rfl rfl ?_ ?_ <;> k_caught0) | (refine src_r2O rfl rfl ?_ <;> k_caught0) | (refine src_r2 rfl rfl ⟨?_, ?_⟩ ⟨?_, ?_⟩ <;> k_caught0)
  | (refine src_mat rfl rfl ?_; k_caught0) | exact src_enum (.tup isSeq_map) | exact src_zip (.tup isSeq_map) (.tup isSeq_map)
  | exact src_one (.tup isSeq_id))
local macro_rules | `(tactic| mod_arm) => `(tactic| first | assumption | (left; refine big_of ?_ ?_ <;> k_caught0) | (right; refine big_of ?_ ?_ <;> k_caught0))
local macro_rules | `(tactic| k_caughtNB) => `(tactic| first
  | (change V2 _ _ _ _ _; with_reducible first | refine v_eqI ?_ | refine v_add ?_ | refine v_sub ?_ | (refine v_mul ?_ ?_; (focus mod_arm)) | (refine v_mod ?_ ?_; (focus k_caught0)) | (refine v_fdiv ?_ ?_ ?_; (focus k_caught0); (focus k_caught0)) | refine v_neI ?_ | refine v_ltI ?_ | refine v_leI ?_ | refine v_gtI ?_ | refine v_geI ?_ | refine v_eqB ?_ | refine v_neB ?_ | refine v_isNN ?_ | refine v_isnNN ?_ | refine v_isI ?_ | refine v_isnI ?_ | refine v_isT ?_ | refine v_isnT ?_ | refine v_max2 ?_ | refine v_min2 ?_ | refine v_nin2 ?_ | refine v_in2 ?_ | (refine v_index ?_ ?_; (focus k_caught0)) | refine v_eqLi ?_ | refine v_nin_nat ?_ | refine v_in_nat ?_ | (refine v_cat1_nat ?_ ?_; (focus k_caught0)) | (refine v_cat_nat ?_ ?_; (focus k_caught0)) | (refine v_mul0 ?_ ?_; (focus k_caught0)) | (refine v_neS ?_ ?_; (focus top_argsB)) | (refine v_eqS ?_ ?_; (focus top_argsB)))
  | (change V2 _ _ _ _ _; first | refine v_isN rfl ?_ | refine v_isnN rfl ?_)
  | (change VI _ _ _ _; with_reducible first | (refine v_item_tab ?_ ?_; (focus k_caught0)) | (refine v_item_row ?_ ?_; (focus k_caught0)) | (refine v_item_at ?_ ?_; (focus k_caught0)) | refine v_fr0 ?_ | refine v_fr1 ?_ | refine v_it0 ?_ | refine v_it1 ?_ | refine v_it2 ?_ | (refine v_rowL ?_ ?_; (focus k_caught0)) | (refine v_itm ?_ ?_; (focus k_caught0)) | (refine v_itl ?_ ?_; (focus k_caught0)))
  | (change V1 _ _ _ _; with_reducible first | refine v_len_tab ?_ | refine v_len_row ?_ | refine v_len_nat ?_ | refine v_len_mat ?_ | refine v_len_rowL ?_ | refine v_len_map ?_ | refine v_len_lstM ?_ | refine v_len_lst ?_ | refine v_len_tup ?_ | refine v_all ?_ | refine v_any ?_ | refine v_sum ?_ | refine v_tuple_rowL ?_ | refine v_tuple_tab ?_ | refine v_tuple_nat ?_ | refine v_tuple_row ?_ | refine v_tuple_map ?_ | refine v_tuple_lst ?_ | refine v_list_row ?_ | refine v_list_nat ?_ | refine v_list_map ?_ | (refine v_lrng1 ?_ ?_ ?_; (focus k_caught0); (focus k_caught0)) | (refine v_trng1 ?_ ?_ ?_; (focus k_caught0); (focus k_caught0)) | (refine v_sortedP (by assumption) ?_) | refine v_abs ?_ | refine v_int ?_ | refine v_neg ?_)
  | (change V1 _ _ _ _; first | refine v_isiT rfl rfl ?_ | refine v_isiF rfl rfl ?_ | refine v_isi2 (by top_caughtB) (by top_caughtB) ?_))
local macro_rules | `(tactic| k_memK) => `(tactic| first
  | (change ∀ _, _; first | refine forall_range ?_ | refine forall_range' ?_ | intro _)
  | (change W _ _ _ _ _; first | refine W_nmP rfl ?_ | refine W_cst ?_ | refine W_op2 ?_ | refine W_op1 ?_ | (apply W_idxM rfl; (focus with_reducible rfl)) | refine W_idx ?_ | refine W_call rfl ?_ | refine W_nmL rfl rfl ?_ | (refine W_nmL rfl (hand_np ?_) ?_; (focus assumption)) | refine W_boP rfl ?_ | refine W_boL rfl rfl rfl ?_ | refine W_and ?_ | refine W_or ?_ | refine W_not ?_ | refine W_comp0 ?_ | refine W_comp1 ?_ | refine W_tup ?_ | refine W_lst ?_ | refine W_chain ?_ | refine W_op3 ?_ | refine W_mth ?_ | refine W_slc ?_)
  | (change WL _ _ _ _ _; first | refine WL_cons ?_ | refine WL_nil ?_)
  | k_caughtNB
  | (change WS _ _ _ _; first | with_reducible refine WS_appC ?_ | with_reducible refine WS_appN ?_ | refine WS_asg ?_ | refine WS_ret ?_ | refine WS_ite ?_ | refine WS_for ?_ | refine WS_exp ?_ | refine WS_asgD ?_ | refine WS_asgT ?_ | refine WS_asg1 ?_ | refine WS_asgM ?_ | refine WS_aug rfl ?_ | refine WS_app rfl ?_ | refine WS_ext rfl ?_ | refine WS_retN ?_ | refine WS_pass ?_ | with_reducible refine WS_nil ?_ | refine WS_brk ?_ | refine WS_cnt ?_)
  | refine K_2r ?_ | refine K_1r ?_ | refine K_1b ?_ | refine K_ir ?_ | refine K_1 rfl ?_ | refine K_2 rfl rfl ?_ | refine K_i rfl rfl ?_
  | (apply K_f; (focus k_caughtB); (focus top_strB)) | refine K_v rfl rfl ?_ | (apply K_w; (focus top_raiseB0)) | refine K_t rfl ?_ | (apply K_p; (focus top_strB))
  | with_reducible refine K_orT ?_ | with_reducible apply K_orF | with_reducible refine K_andF ?_ | with_reducible apply K_andT | apply K_and | apply K_or | apply K_c o_leI | apply K_c o_ltI | apply K_c o_geI | apply K_c o_gtI | apply K_c o_eqI
  | exact isB_ | exact isV_ | exact ans_ | exact K_ce o_leI | exact K_ce o_ltI | exact K_ce o_geI | exact K_ce o_gtI | exact K_ce o_eqI | refine K_fr rfl ?_ | refine K_fn rfl ?_
  | (apply K_m0; (focus top_strB); (focus k_caughtN0); (focus k_caught0)) | (apply K_m1; (focus top_strB); (focus k_caughtN0); (focus k_caught0))
  | (apply K_e; (focus top_reprB)) | (apply K_ec; (focus top_reprB)) | (apply K_n; (focus top_raiseB0); (focus rfl))
  | (refine K_lm ?_ ?_; (focus modx_arm)) | (apply K_tu; (focus (simp only [pures, Option.map_some] <;> rfl)); (focus modx_arm)) | refine K_oN ?_ | (apply K_oC; (focus top_raiseB0)) | refine K_3 rfl rfl rfl ?_ | (refine K_im rfl rfl ?_ ?_; (focus k_caught0)) | refine K_sn ?_ | refine K_s2 ?_ | refine K_s1 ?_ | (apply K_st2m rfl; (focus with_reducible rfl); (focus rfl); (focus rfl); (focus k_caught0); (focus k_caught0); (focus top_strB)) | (apply K_bb; (focus top_strB)) | refine K_ssC ?_ | refine K_ssN ?_
  | (apply K_ps; (focus top_strB)) | (apply K_u; (focus rfl)) | (apply K_um; (focus (simp only [List.map_cons, List.map_nil] <;> rfl))) | (apply K_ap rfl; (focus k_caught0); (focus top_strB)) | (apply K_ex rfl; (focus k_caught0); (focus top_strB)) | refine K_if rfl ?_ ?_
  | (apply K_nx; (focus top_strB)) | (apply K_ct; (focus top_strB)) | (apply K_bk; (focus top_strB)) | refine K_rt ?_ | (with_reducible apply K_b; (focus top_reprB)) | with_reducible rfl | refine And.intro rfl (And.intro rfl ?_) | refine K_mt rfl rfl rfl ?_ | refine K_sl1 rfl ?_)
local macro_rules | `(tactic| fold_depth) => `(tactic| (apply Sp_mk; (focus rfl); (focus (dsimp only [startS, List.map, List.length, Nat.zero_add, Nat.reduceAdd, Nat.reduceSub, List.replicate, List.cons_append, List.nil_append] <;> rfl)); (focus (simp only [stsO, stO, Tgt.st, Tg.own, List.flatMap_cons, List.flatMap_nil, List.append_nil, List.nil_append, List.cons_append] <;> rfl))))
local macro_rules | `(tactic| top_caught0) => `(tactic| first
  | (refine srcF_r1 rfl ?_; k_caught0) | (refine srcF_r2S rfl rfl ?_ ?_ <;> k_caught0) | (refine srcF_r2 rfl rfl ⟨?_, ?_⟩ ⟨?_, ?_⟩ <;> k_caught0)
  | exact srcF_one (.tup isSeq_row) | exact srcF_one (.tup isSeq_tab) | exact srcF_one (.tup isSeq_nat) | exact srcF_enumR (.tup isSeq_row) | exact srcF_enumR (.tup isSeq_tab)
  | exact srcF_zipR (.tup isSeq_row) (.tup isSeq_row) | exact srcF_zipR (.tup isSeq_tab) (.tup isSeq_tab)
  | exact srcF_one (.live rfl (fun _ h => by rw [h]; rfl) rfl isLst_map) | exact srcF_one (.lst isLst_map) | exact srcF_one (.tup isSeq_map) | exact srcF_one (.tup isSeq_id))
local macro_rules | `(tactic| top_raise0) => `(tactic| (apply K_foS; (focus top_strB); (focus top_caught0)))

local macro_rules | `(tactic| k_memK) => `(tactic| (refine k_draw97 ?_ ?_ ?_ ?_; (focus assumption); (focus k_caught0); (focus k_caught0); intro r h hh hr0 hr1))
local macro_rules | `(tactic| k_memK) => `(tactic| exact fun (h : (_ : Bool) = _) => Bool.noConfusion h)
section
variable {n m : Nat} {f g : Nat → Nat → Int} {xs : List Nat}
theorem k_sound97 {h : D} {q : Bool} {rs : List R} {ρ : List S} {Q : R → List S → Prop} {most : Int} (hh : IsHand h) (h1 : 1 ≤ most) (h7 : most ≤ 7) (F : ∀ h' n g, IsHand h' → Tab n g → Snd n g → (n : Int) ≤ most → KBk rs [some h', none] ρ fun ρ2 => Q (.rv (.p (tabT n g))) ρ2) : KF C__law_sound97 q rs [h, .p (.int most)] ρ Q := by
  refine K_fs ?_
  delta C__law_sound97 b__law_sound97
  fold_depth
  repeat k_memK
  rename_i r h1 hh1 hr0 hr1
  refine k_some97 (F := [2, 4, 9, 30, 1000]) (enc := T.int) (by assumption) (by decide) (by decide) fun h2 top hh2 htop => ?_
  obtain ⟨k, rfl⟩ : ∃ k : Nat, r = k := ⟨r.toNat, by omega⟩
  rw [show (1 : Int) + (k : Int) = ((1 + k : Nat) : Int) by omega]
  have n1 : 1 ≤ 1 + k := by omega
  have n7 : 1 + k ≤ 7 := by omega
  have n6 : ((1 + k : Nat) : Int) ≤ most := by omega
  generalize 1 + k = n at n1 n7 n6 ⊢
  have ht : 0 < top ∧ top ≤ 1000 := by simp at htop; omega
  repeat k_memK
  refine k_table97 (n := n) (top := top) (by assumption) n1 n7 ht.1 ht.2 fun h3 g hh3 t => ?_
  have t' := tab_cloM t n (Nat.le_refl n)
  have s' : Snd n (cloM g n) := fun i j k hi hj hk => clo_snd t n (Nat.le_refl n) j hj i k hi hk
  repeat k_memK
  refine K_f (c__law_closing97 t) (by top_strB) ?_
  repeat k_memK
  rw [show left [2] 0 [h, .p (.int most)] [.val h3, .val (.p (.int most)), .val (.p (tabT n g))] = [some h3, none] by simp only [left, hand_np hh]; simp [look, isP]]
  exact (F h3 n _ hh3 t' s' n6).out
/-! ### the length of a round -/
theorem v_from1 {ρ : List S} {Q : R → List S → Prop} (hQ : Q (.rv (.p (natT (xs.drop 1)))) ρ) : V2 (.slice true false) (.p (natT xs)) (.p (.int 1)) ρ Q := ⟨.p (natT (xs.drop 1)), by simp only [opD, sliceD, sliceV, natT, cut1, List.map_drop], hQ⟩
theorem v_to1 {ρ : List S} {Q : R → List S → Prop} (hQ : Q (.rv (.p (natT (xs.take 1)))) ρ) : V2 (.slice false true) (.p (natT xs)) (.p (.int 1)) ρ Q := ⟨_, rfl, by
  have : PF.cutT (xs.map fun (k : Nat) => T.int (k : Int)) none (some 1) = (xs.take 1).map fun (k : Nat) => T.int (k : Int) := by
    cases xs with
    | nil => simp [PF.cutT]
    | cons x r => simp [PF.cutT, HT.sIx]
  rw [this]; exact hQ⟩
local macro_rules | `(tactic| k_memK) => `(tactic| (change V2 _ _ _ _ _; with_reducible first | refine v_from1 ?_ | refine v_to1 ?_))
local macro_rules | `(tactic| k_memK) => `(tactic| (change VI _ _ _ _; with_reducible first | (refine v_head ?_ ?_; (focus k_caught0)) | (refine v_last ?_ ?_; (focus k_caught0))))
local macro_rules | `(tactic| k_caughtN0) => `(tactic| exact src_zip (.tup isSeq_nat) (.tup isSeq_nat))
theorem zip_lt {ys : List Nat} (h : ∀ x ∈ xs, x < n) (h2 : ∀ x ∈ ys, x < n) : ∀ p ∈ xs.zip ys, p.1 < n ∧ p.2 < n := fun p hp => ⟨h _ (List.of_mem_zip hp).1, h2 _ (List.of_mem_zip hp).2⟩
theorem turn_lt (h : ∀ x ∈ xs, x < n) : ∀ x ∈ xs.drop 1 ++ xs.take 1, x < n := fun x hx => by
  rcases List.mem_append.mp hx with e | e
  · exact h x (List.mem_of_mem_drop e)
  · exact h x (List.mem_of_mem_take e)
theorem c__law_length97 (hL : xs.length ≤ LIM) (h : ∀ x ∈ xs, x < n) : C__law_length97 [.p (tabT n f), .p (natT xs)] = some (.p (.int (lenF f xs)), [none, none]) := by
  refine Sp.eq ?_
  have hz := zip_lt h (turn_lt h)
  have h1 : (xs.drop 1).length + (xs.take 1).length ≤ LIM := by simp; omega
  have h2 : (xs.zip (xs.drop 1 ++ xs.take 1)).length ≤ LIM := by simp; omega
  delta C__law_length97 b__law_length97
  fold_depth
  repeat k_memK
  rename_i q hq
  obtain ⟨k1, k2⟩ := hz q hq
  repeat k_memK
local macro_rules | `(tactic| k_caughtB) => `(tactic| with_reducible exact c__law_length97 (by assumption) (by assumption))
theorem c_raw_length (hL : xs.length ≤ LIM) (h : ∀ x ∈ xs, x < n) : C_raw_length [.p (tabT n f), .p (natT xs)] = some (.p (.int (lenF f xs)), [none, none]) := c__law_length97 hL h
local macro_rules | `(tactic| k_caughtB) => `(tactic| with_reducible exact c_raw_length (by assumption) (by assumption))
local macro_rules | `(tactic| k_caughtB) => `(tactic| with_reducible exact c_check_sound (by assumption) (by assumption))
local macro_rules | `(tactic| k_caughtB) => `(tactic| with_reducible exact c_are_all (by assumption) (by assumption))
theorem c_check_round (t : Tab n f) (s : Snd n f) (p : Pm n xs) : C_check_round [.p (tabT n f), .p (natT xs)] = some (.p .non, [none, none]) := by
  refine Sp.eq ?_
  have h7 := t.n7
  delta C_check_round b_check_round
  fold_depth
  repeat k_memK
local macro_rules | `(tactic| k_caughtB) => `(tactic| with_reducible exact c_check_round (by assumption) (by assumption) (by assumption))
theorem c_length_of (t : Tab n f) (s : Snd n f) (p : Pm n xs) : C_length_of [.p (tabT n f), .p (natT xs)] = some (.p (.int (lenF f xs)), [none, none]) := by
  refine Sp.eq ?_
  have hL : xs.length ≤ LIM := by rw [p.len]; exact lim7 t.n7
  have hlt := p.lt
  delta C_length_of b_length_of
  fold_depth
  repeat k_memK
local macro_rules | `(tactic| k_caughtB) => `(tactic| with_reducible exact c_all_rows (by assumption))
section
local macro_rules | `(tactic| k_memK) => `(tactic| (apply K_m1 (g := encR) (p := from0); (focus top_strB); (focus exact src_one (.lst isLst_map)); (focus k_caught0)))
theorem c_rounds_from (t : Tab n f) : C_rounds_from [.p (tabT n f)] = some (.l (((rowsN n n).filter from0).map encR), [none]) := by
  refine Sp.eq ?_
  have h7 := t.n7
  have h1 := t.n1
  have hl := lim7 h7
  have hL := rows_LIM h7
  delta C_rounds_from b_rounds_from
  fold_depth
  repeat k_memK
  rename_i row hr
  have hlen := (rowsN_pm row hr).len
  repeat k_memK
  refine ⟨by simp [from0], rfl, fun _ => ?_⟩
  repeat k_memK
end
/-! ### whether two things are the same -/
inductive Same : Nat → T → Prop
  | int {k : Nat} {i : Int} : Same (k + 1) (.int i)
  | tup {k : Nat} {ts : List T} : ts.length ≤ LIM → (∀ t ∈ ts, Same k t) → Same (k + 1) (.tup ts)
theorem zip_same {α : Type} : ∀ (l : List α), ∀ q ∈ l.zip l, q.1 = q.2 ∧ q.1 ∈ l
  | [], q, h => by simp at h
  | a :: l, q, h => by
    rw [List.zip_cons_cons] at h
    rcases List.mem_cons.mp h with e | e
    · rw [e]; simp
    · have := zip_same l q e
      exact ⟨this.1, List.mem_cons_of_mem _ this.2⟩
theorem v_eqI1 {a b : Int} {ρ : List S} {Q : R → List S → Prop} (h : a = b) (hQ : Q (.rv (.p (.bl true))) ρ) : V2 .eq (.p (.int a)) (.p (.int b)) ρ Q := by
  subst h
  exact v_eqS (by simp [okT]) hQ
local macro_rules | `(tactic| k_memK) => `(tactic| (change V2 _ _ _ _ _; with_reducible (refine v_eqI1 ?_ ?_; (focus rfl))))
local macro_rules | `(tactic| k_memK) => `(tactic| exact fun (h : (_ : Bool) = _) => absurd h (by decide))
section
local macro_rules | `(tactic| k_caughtN0) => `(tactic| exact src_zip (.tup isSeq_id) (.tup isSeq_id))
local macro_rules | `(tactic| k_memK) => `(tactic| (apply K_m0 (g := fun _ => D.p (T.bl true)); (focus top_strB); (focus k_caughtN0); (focus k_caught0)))
theorem c_is {k : Nat} {t : T} (h : Same k t) : recC [] 5 2 b__law_is k [.p t, .p t] = some (.p (.bl true), [none, none]) := by
  induction h with
  | @int k i =>
    refine Sp.eq ?_
    unfold recC
    delta b__law_is
    fold_depth
    repeat k_memK
  | @tup k ts hL h ih =>
    refine Sp.eq ?_
    unfold recC
    have hz : (ts.zip ts).length ≤ LIM := by simp; omega
    generalize recC [] 5 2 b__law_is k = C at ih ⊢
    delta b__law_is
    fold_depth
    repeat k_memK
    · rename_i q hq
      obtain ⟨e, hm⟩ := zip_same ts q hq
      have hq2 : C [.p q.1, .p q.2] = some (.p (.bl true), [none, none]) := by rw [← e]; exact ih q.1 hm
      refine K_f hq2 (by top_strB) ?_
      repeat k_memK
    repeat k_memK
    rw [show ((ts.zip ts).all fun _ => true) = true by simp]
    repeat k_memK
end
local macro_rules | `(tactic| k_caughtB) => `(tactic| with_reducible exact c_rounds_from (by assumption))
abbrev lt0 (f : Nat → Nat → Int) : List Nat → List Nat → Bool := fun a b => decide (lenF f a < lenF f b)
theorem c_raw_least (t : Tab n f) {x : List Nat} {r : List (List Nat)} (hx : (rowsN n n).filter from0 = x :: r) : C_raw_least [.p (tabT n f)] = some (.p (cR (lenF f) (fmin (lt0 f) x r)), [none]) := by
  refine Sp.eq ?_
  have h7 := t.n7
  have hl := lim7 h7
  have hL := rows_LIM h7
  have hF : ((rowsN n n).filter from0).length ≤ LIM := Nat.le_trans (List.length_filter_le _ _) hL
  delta C_raw_least b_raw_least
  fold_depth
  repeat k_memK
  · rename_i row hr
    have p := rowsN_pm row (List.mem_filter.mp hr).1
    refine K_f (c_raw_length (by rw [p.len]; exact hl) p.lt) (by top_strB) ?_
    repeat k_memK
  repeat k_memK
  refine V_1 (d := .p (cR (lenF f) (fmin (lt0 f) x r))) ?_ ?_
  · rw [hx]
    exact o_min1R (lenF f) (by rw [← hx]; exact (rowsN_lex n n).filter _)
  repeat k_memK
local macro_rules | `(tactic| k_caughtB) => `(tactic| with_reducible exact c_raw_least (by assumption) (by assumption))
theorem c_least_round (t : Tab n f) (s : Snd n f) {x : List Nat} {r : List (List Nat)} (hx : (rowsN n n).filter from0 = x :: r) : C_least_round [.p (tabT n f)] = some (.p (cR (lenF f) (fmin (lt0 f) x r)), [none]) := by
  refine Sp.eq ?_
  delta C_least_round b_least_round
  fold_depth
  repeat k_memK
section
variable {α : Type} {l : List α} {c : α → Int} {a : Int} {ρ : List S} {Q : R → List S → Prop}
theorem seq_ints : seqT (.l (l.map fun i => D.p (.int (c i)))) = some ((l.map c).map T.int) := by
  rw [List.map_map]
  exact pures_mapP l fun i => T.int (c i)
theorem v_countL (hQ : Q (.rv (.p (.int ((l.map c).countP fun z => decide (z = a) : Nat)))) ρ) : V2 .count (.l (l.map fun i => .p (.int (c i)))) (.p (.int a)) ρ Q := by
  refine ⟨.p (.int ((l.map c).countP fun z => decide (z = a) : Nat)), ?_, hQ⟩
  have e : (((l.map c).map T.int).countP fun z => eqT z (.int a)) = (l.map c).countP fun z => decide (z = a) := by
    rw [List.countP_map]
    congr 1
    try (funext z; simp [eqT, beq_dec])
  simp only [opD, countD, seq_ints, okT, if_true, e, I]
theorem idx_ints : ∀ {l : List Int}, a ∈ l → idxT (.int a) (l.map T.int) = some (l.idxOf a)
  | [], h => by simp at h
  | x :: l, h => by
    by_cases e : x = a
    · subst e
      simp [idxT, eqT]
    · have h' : a ∈ l := by
        rcases List.mem_cons.mp h with z | z
        · exact absurd z.symm e
        · exact z
      have := idx_ints h'
      have hb : (x == a) = false := by simpa using e
      simp [idxT, eqT, e, this, List.idxOf_cons, hb]
theorem v_indexL (h : a ∈ l.map c) (hQ : Q (.rv (.p (.int ((l.map c).idxOf a : Nat)))) ρ) : V2 .index (.l (l.map fun i => .p (.int (c i)))) (.p (.int a)) ρ Q := by
  refine ⟨.p (.int ((l.map c).idxOf a : Nat)), ?_, hQ⟩
  simp only [opD, indexD, seq_ints, okT, if_true, idx_ints h, Option.map_some, I]
theorem v_min1L (h : l ≠ []) (hQ : Q (.rv (.p (.int (mnOf (l.map c))))) ρ) : V1 .min1 (.l (l.map fun i => .p (.int (c i)))) ρ Q := by
  have := v_min1I (l := l.map c) (ρ := ρ) (Q := Q) (by simpa using h) hQ
  rw [List.map_map] at this
  exact this
end
theorem c_how_many_least (t : Tab n f) (s : Snd n f) {x : List Nat} {r : List (List Nat)} (hx : (rowsN n n).filter from0 = x :: r) : C_how_many_least [.p (tabT n f)] = some (.p (.int ((((rowsN n n).filter from0).map (lenF f)).countP fun z => decide (z = mnOf (((rowsN n n).filter from0).map (lenF f))) : Nat)), [none]) := by
  refine Sp.eq ?_
  have h7 := t.n7
  have hl := lim7 h7
  have hL := rows_LIM h7
  have hF : ((rowsN n n).filter from0).length ≤ LIM := Nat.le_trans (List.length_filter_le _ _) hL
  delta C_how_many_least b_how_many_least
  fold_depth
  repeat k_memK
  · rename_i row hr
    have p := rowsN_pm row (List.mem_filter.mp hr).1
    refine K_f (c_raw_length (by rw [p.len]; exact hl) p.lt) (by top_strB) ?_
    repeat k_memK
  repeat k_memK
  refine v_min1L (by rw [hx]; simp) ?_
  repeat k_memK
  refine v_countL ?_
  repeat k_memK
/-! ### paths -/
local macro_rules | `(tactic| k_caughtB) => `(tactic| with_reducible exact c_is_within)
local macro_rules | `(tactic| k_caughtB) => `(tactic| with_reducible exact c_all_rows (by assumption))
abbrev ltP (f : Nat → Nat → Int) : List Nat → List Nat → Bool := fun a b => decide (pathF f a < pathF f b)
theorem path_lt {row : List Nat} (p : Pm n row) : ∀ q ∈ row.zip (row.drop 1), q.1 < n ∧ q.2 < n := zip_lt p.lt fun x hx => p.lt x (List.mem_of_mem_drop hx)
section
local macro_rules | `(tactic| k_memK) => `(tactic| (apply K_m1 (g := encR) (p := by assumption); (focus top_strB); (focus exact src_one (.lst isLst_map)); (focus k_caught0)))
theorem c_least_path (t : Tab n f) (s : Snd n f) {i j : Nat} (hi : i < n) (hj : j < n) (hij : i ≠ j ∨ n = 1) {x : List Nat} {r : List (List Nat)} (hx : (rowsN n n).filter (fromTo i j) = x :: r) : C_least_path [.p (tabT n f), .p (.int i), .p (.int j)] = some (.p (cR (pathF f) (fmin (ltP f) x r)), [none, none, none]) := by
  refine Sp.eq ?_
  have h7 := t.n7
  have hl := lim7 h7
  have hL := rows_LIM h7
  have hF : ((rowsN n n).filter (fromTo i j)).length ≤ LIM := Nat.le_trans (List.length_filter_le _ _) hL
  delta C_least_path b_least_path
  fold_depth
  repeat k_memK
  top_raise0
  · intro a ha
    obtain ⟨k, hk, rfl⟩ : ∃ k : Nat, k < n ∧ a = .int k := by
      rcases List.mem_cons.mp ha with e | e
      · exact ⟨i, hi, e⟩
      · exact ⟨j, hj, by simpa using e⟩
    simp only [id_eq]
    refine K_b (by top_reprB) ?_
    repeat k_memK
    all_goals first | (intro h; exfalso; simp at h; omega) | (exfalso; rename_i h; simp at h; omega) | (intro h; repeat k_memK)
  repeat k_memK
  · rename_i h
    exfalso
    simp at h
    omega
  obtain ⟨P, hP⟩ : ∃ P : List Nat → Bool, P = fromTo i j := ⟨_, rfl⟩
  intro _
  repeat k_memK
  · rename_i row hr
    have p := rowsN_pm row hr
    have hlen := p.len
    have hn : 0 < row.length := by omega
    repeat k_memK
    refine ⟨by rw [hP, fromTo]; congr 1 <;> simp only [Int.natCast_inj], rfl, fun _ => ?_⟩
    repeat k_memK
  rw [hP]
  repeat k_memK
  · rename_i row hr
    have p := rowsN_pm row (List.mem_filter.mp hr).1
    have hlen := p.len
    have hz : (row.zip (row.drop 1)).length ≤ LIM := by simp; omega
    repeat k_memK
    · rename_i q hq
      obtain ⟨k1, k2⟩ := path_lt p q hq
      repeat k_memK
    repeat k_memK
  repeat k_memK
  refine V_1 (d := .p (cR (pathF f) (fmin (ltP f) x r))) ?_ ?_
  · rw [hx]
    exact o_min1R (pathF f) (by rw [← hx]; exact (rowsN_lex n n).filter _)
  repeat k_memK
end
end
end CM

set_option Elab.async false
set_option linter.all false
set_option maxRecDepth 100000
set_option maxHeartbeats 0
namespace K53
open PySem PySem.Spec PyProof.Rows L2 PF
abbrev b__law_hand := CM.b__law_hand97
abbrev C__law_hand := CM.C__law_hand97
abbrev b__law_draw := CM.b__law_draw97
abbrev C__law_draw := CM.C__law_draw97
abbrev b__law_table := CM.b__law_table97
abbrev C__law_table := CM.C__law_table97
abbrev b__law_some := CM.b__law_some97
abbrev C__law_some := CM.C__law_some97
abbrev b__law_closing := CM.b__law_closing97
abbrev C__law_closing := CM.C__law_closing97
abbrev b__law_sound := CM.b__law_sound97
abbrev C__law_sound := CM.C__law_sound97
abbrev b__law_rows := CM.b__law_names
abbrev C__law_rows := CM.C__law_names
abbrev b__law_length := CM.b_raw_length
abbrev C__law_length := CM.C_raw_length
abbrev b__law_is := CM.b__law_is
abbrev C__law_is := CM.C__law_is
abbrev b_is_sized := CM.b_is_sized
abbrev C_is_sized := CM.C_is_sized
abbrev b_is_integer := CM.b_is_integer
abbrev C_is_integer := CM.C_is_integer
abbrev b_is_within := CM.b_is_within
abbrev C_is_within := CM.C_is_within
abbrev b_is_table := CM.b_is_table
abbrev C_is_table := CM.C_is_table
abbrev b_check_table := CM.b_check_table
abbrev C_check_table := CM.C_check_table
abbrev b_short_triple := CM.b_short_triple
abbrev C_short_triple := CM.C_short_triple
abbrev b_check_sound := CM.b_check_sound
abbrev C_check_sound := CM.C_check_sound
abbrev b_are_all := CM.b_are_all
abbrev C_are_all := CM.C_are_all
abbrev b_check_round := CM.b_check_round
abbrev C_check_round := CM.C_check_round
abbrev b_raw_length := CM.b_raw_length
abbrev C_raw_length := CM.C_raw_length
abbrev b_length_of := CM.b_length_of
abbrev C_length_of := CM.C_length_of
abbrev b_all_rows := CM.b_all_rows
abbrev C_all_rows := CM.C_all_rows
abbrev b_rounds_from := CM.b_rounds_from
abbrev C_rounds_from := CM.C_rounds_from
abbrev b_raw_least := CM.b_raw_least
abbrev C_raw_least := CM.C_raw_least
abbrev b_least_round := CM.b_least_round
abbrev C_least_round := CM.C_least_round
abbrev b_how_many_least := CM.b_how_many_least
abbrev C_how_many_least := CM.C_how_many_least
abbrev b_least_path := CM.b_least_path
abbrev C_least_path := CM.C_least_path
-- law ['script', 'hand', 'turn', 'table', 'many', 'rounds', 'sums', 'row', 'some', 'i', 'j', 'paths', 'total', 'here', 'there']
def b_law : List PF.St := [.asg 1 (.call 0 [(.nm 0)]), .for_ (.one 2) 1 [(.cst (.int 3))] [.asg 3 (.call 1 [(.nm 1), (.cst (.int 6))]), .asg 4 (.op .len [(.nm 3)]), .asg 5 (.call 2 [(.nm 4)]), .asg 6 (.comp (.call 3 [(.nm 3), (.nm 7)]) (.one 7) 0 [(.nm 5)] []), .asg 7 (.call 4 [(.nm 1), (.nm 5)]), .ite (.not_ (.call 5 [(.call 6 [(.nm 3), (.nm 7)]), (.call 3 [(.nm 3), (.nm 7)])])) [.ret (.cst (.bl false))] [], .ite (.not_ (.call 5 [(.call 7 [(.nm 3)]), (.tup [(.op .min1 [(.nm 6)]), (.idx (.nm 5) (.mth .index (.nm 6) (.op .min1 [(.nm 6)])))])])) [.ret (.cst (.bl false))] [], .asg 8 (.comp (.nm 7) (.many [7, 12]) 4 [(.nm 5), (.nm 6)] [(.and_ (.op .eq [(.nm 12), (.op .min1 [(.nm 6)])]) (.op .eq [(.idx (.nm 7) (.cst (.int 0))), (.cst (.int 0))]))]), .ite (.not_ (.call 5 [(.call 8 [(.nm 3)]), (.op .len [(.nm 8)])])) [.ret (.cst (.bl false))] [], .asgT [9, 10] (.tup [(.call 9 [(.nm 1), (.nm 4)]), (.call 9 [(.nm 1), (.nm 4)])]), .ite (.or_ (.op .ne [(.nm 9), (.nm 10)]) (.op .eq [(.nm 4), (.cst (.int 1))])) [.asg 11 (.lst []), .for_ (.one 7) 0 [(.nm 5)] [.ite (.and_ (.op .eq [(.idx (.nm 7) (.cst (.int 0))), (.nm 9)]) (.op .eq [(.idx (.nm 7) (.op .neg [(.cst (.int 1))])), (.nm 10)])) [.app 11 (.tup [(.op .sum [(.comp (.idx (.idx (.nm 3) (.nm 13)) (.nm 14)) (.many [13, 14]) 4 [(.nm 7), (.op (.slice true false) [(.nm 7), (.cst (.int 1))])] [])]), (.nm 7)])] []] [7], .ite (.not_ (.call 5 [(.call 10 [(.nm 3), (.nm 9), (.nm 10)]), (.op .min1 [(.nm 11)])])) [.ret (.cst (.bl false))] []] []] [2, 3, 4, 5, 6, 7, 8, 9, 10, 11], .ret (.cst (.bl true))]
def C_law : CT := mk [C__law_hand, C__law_sound, C__law_rows, C__law_length, C__law_some, C__law_is, C_length_of, C_least_round, C_how_many_least, C__law_draw, C_least_path] 15 1 b_law
end K53

set_option Elab.async false
set_option linter.all false
set_option maxRecDepth 100000
set_option maxHeartbeats 0
namespace K53
open PF CM
local macro_rules | `(tactic| modx_arm) => `(tactic| first | (simp only [List.length_cons, List.length_nil]; exact Nat.le_of_ble_eq_true rfl) | assumption)
local macro_rules | `(tactic| top_argsB) => `(tactic| first | assumption | exact ok_tab | exact ok_row | exact ok_nat | (with_unfolding_all rfl))
local macro_rules | `(tactic| top_caughtB) => `(tactic| first | exact o_isiT rfl rfl | exact o_isiF rfl rfl)
local macro_rules | `(tactic| k_caught0) => `(tactic| first | assumption | omega | (rw [List.length_range]; first | assumption | omega) | (rw [List.length_range']; exact lim49 (by omega)))
local macro_rules | `(tactic| top_raiseB0) => `(tactic| first | exact own_rv | (dsimp only [PF.own, look, put, reduceIte, Bool.false_eq_true] <;> rfl))
local macro_rules | `(tactic| top_reprB) => `(tactic| first | (simp only [PF.bind, putAll, put, unpk, List.map, reduceIte, Bool.false_eq_true] <;> rfl) | rfl)
local macro_rules | `(tactic| top_strB) => `(tactic| (dsimp only [put, kill, Tg.own, putAll, List.map, back] <;> rfl))
local macro_rules | `(tactic| k_caughtN0) => `(tactic| first
  | exact src_one (.tup isSeq_row) | exact src_one (.tup isSeq_tab) | exact src_one (.tup isSeq_nat) | exact src_enumR (.tup isSeq_row) | exact src_enumR (.tup isSeq_tab)
  | exact src_zipR (.tup isSeq_row) (.tup isSeq_row) | exact src_zipR (.tup isSeq_tab) (.tup isSeq_tab)
  | exact src_one (.tup isSeq_map) | exact src_one (.lst isLst_map) | exact src_one (.live rfl rfl isLst_map)
  | (refine src_r1 rfl ?_; k_caught0) | (refine src_r2S rfl rfl ?_ ?_ <;> k_caught0) | (refine src_r2O rfl rfl ?_ <;> k_caught0) | (refine src_r2 rfl rfl ⟨?_, ?_⟩ ⟨?_, ?_⟩ <;> k_caught0)
  | (refine src_mat rfl rfl ?_; k_caught0) | exact src_enum (.tup isSeq_map) | exact src_zip (.tup isSeq_map) (.tup isSeq_map)
  | exact src_one (.tup isSeq_id))
local macro_rules | `(tactic| mod_arm) => `(tactic| first | assumption | (left; refine big_of ?_ ?_ <;> k_caught0) | (right; refine big_of ?_ ?_ <;> k_caught0))
local macro_rules | `(tactic| k_caughtNB) => `(tactic| first
  | (change V2 _ _ _ _ _; with_reducible first | refine v_eqI ?_ | refine v_add ?_ | refine v_sub ?_ | (refine v_mul ?_ ?_; (focus mod_arm)) | (refine v_mod ?_ ?_; (focus k_caught0)) | (refine v_fdiv ?_ ?_ ?_; (focus k_caught0); (focus k_caught0)) | refine v_neI ?_ | refine v_ltI ?_ | refine v_leI ?_ | refine v_gtI ?_ | refine v_geI ?_ | refine v_eqB ?_ | refine v_neB ?_ | refine v_isNN ?_ | refine v_isnNN ?_ | refine v_isI ?_ | refine v_isnI ?_ | refine v_isT ?_ | refine v_isnT ?_ | refine v_max2 ?_ | refine v_min2 ?_ | refine v_nin2 ?_ | refine v_in2 ?_ | (refine v_index ?_ ?_; (focus k_caught0)) | refine v_eqLi ?_ | refine v_nin_nat ?_ | refine v_in_nat ?_ | (refine v_cat1_nat ?_ ?_; (focus k_caught0)) | (refine v_cat_nat ?_ ?_; (focus k_caught0)) | (refine v_mul0 ?_ ?_; (focus k_caught0)) | (refine v_neS ?_ ?_; (focus top_argsB)) | (refine v_eqS ?_ ?_; (focus top_argsB)))
  | (change V2 _ _ _ _ _; first | refine v_isN rfl ?_ | refine v_isnN rfl ?_)
  | (change VI _ _ _ _; with_reducible first | (refine v_item_tab ?_ ?_; (focus k_caught0)) | (refine v_item_row ?_ ?_; (focus k_caught0)) | (refine v_item_at ?_ ?_; (focus k_caught0)) | refine v_fr0 ?_ | refine v_fr1 ?_ | refine v_it0 ?_ | refine v_it1 ?_ | refine v_it2 ?_ | (refine v_rowL ?_ ?_; (focus k_caught0)) | (refine v_itm ?_ ?_; (focus k_caught0)) | (refine v_itl ?_ ?_; (focus k_caught0)))
  | (change V1 _ _ _ _; with_reducible first | refine v_len_tab ?_ | refine v_len_row ?_ | refine v_len_nat ?_ | refine v_len_mat ?_ | refine v_len_rowL ?_ | refine v_len_map ?_ | refine v_len_lstM ?_ | refine v_len_lst ?_ | refine v_len_tup ?_ | refine v_all ?_ | refine v_any ?_ | refine v_sum ?_ | refine v_tuple_rowL ?_ | refine v_tuple_tab ?_ | refine v_tuple_nat ?_ | refine v_tuple_row ?_ | refine v_tuple_map ?_ | refine v_tuple_lst ?_ | refine v_list_row ?_ | refine v_list_nat ?_ | refine v_list_map ?_ | (refine v_lrng1 ?_ ?_ ?_; (focus k_caught0); (focus k_caught0)) | (refine v_trng1 ?_ ?_ ?_; (focus k_caught0); (focus k_caught0)) | (refine v_sortedP (by assumption) ?_) | refine v_abs ?_ | refine v_int ?_ | refine v_neg ?_)
  | (change V1 _ _ _ _; first | refine v_isiT rfl rfl ?_ | refine v_isiF rfl rfl ?_ | refine v_isi2 (by top_caughtB) (by top_caughtB) ?_))
local macro_rules | `(tactic| k_memK) => `(tactic| first
  | (change ∀ _, _; first | refine forall_range ?_ | refine forall_range' ?_ | intro _)
  | (change W _ _ _ _ _; first | refine W_nmP rfl ?_ | refine W_cst ?_ | refine W_op2 ?_ | refine W_op1 ?_ | (apply W_idxM rfl; (focus with_reducible rfl)) | refine W_idx ?_ | refine W_call rfl ?_ | refine W_nmL rfl rfl ?_ | (refine W_nmL rfl (hand_np ?_) ?_; (focus assumption)) | refine W_boP rfl ?_ | refine W_boL rfl rfl rfl ?_ | refine W_and ?_ | refine W_or ?_ | refine W_not ?_ | refine W_comp0 ?_ | refine W_comp1 ?_ | refine W_tup ?_ | refine W_lst ?_ | refine W_chain ?_ | refine W_op3 ?_ | refine W_mth ?_ | refine W_slc ?_)
  | (change WL _ _ _ _ _; first | refine WL_cons ?_ | refine WL_nil ?_)
  | k_caughtNB
  | (change WS _ _ _ _; first | with_reducible refine WS_appC ?_ | with_reducible refine WS_appN ?_ | refine WS_asg ?_ | refine WS_ret ?_ | refine WS_ite ?_ | refine WS_for ?_ | refine WS_exp ?_ | refine WS_asgD ?_ | refine WS_asgT ?_ | refine WS_asg1 ?_ | refine WS_asgM ?_ | refine WS_aug rfl ?_ | refine WS_app rfl ?_ | refine WS_ext rfl ?_ | refine WS_retN ?_ | refine WS_pass ?_ | with_reducible refine WS_nil ?_ | refine WS_brk ?_ | refine WS_cnt ?_)
  | refine K_2r ?_ | refine K_1r ?_ | refine K_1b ?_ | refine K_ir ?_ | refine K_1 rfl ?_ | refine K_2 rfl rfl ?_ | refine K_i rfl rfl ?_
  | (apply K_f; (focus k_caughtB); (focus top_strB)) | refine K_v rfl rfl ?_ | (apply K_w; (focus top_raiseB0)) | refine K_t rfl ?_ | (apply K_p; (focus top_strB))
  | with_reducible refine K_orT ?_ | with_reducible apply K_orF | with_reducible refine K_andF ?_ | with_reducible apply K_andT | apply K_and | apply K_or | apply K_c o_leI | apply K_c o_ltI | apply K_c o_geI | apply K_c o_gtI | apply K_c o_eqI
  | exact isB_ | exact isV_ | exact ans_ | exact K_ce o_leI | exact K_ce o_ltI | exact K_ce o_geI | exact K_ce o_gtI | exact K_ce o_eqI | refine K_fr rfl ?_ | refine K_fn rfl ?_
  | (apply K_m0; (focus top_strB); (focus k_caughtN0); (focus k_caught0)) | (apply K_m1; (focus top_strB); (focus k_caughtN0); (focus k_caught0))
  | (apply K_e; (focus top_reprB)) | (apply K_ec; (focus top_reprB)) | (apply K_n; (focus top_raiseB0); (focus rfl))
  | (refine K_lm ?_ ?_; (focus modx_arm)) | (apply K_tu; (focus (simp only [pures, Option.map_some] <;> rfl)); (focus modx_arm)) | refine K_oN ?_ | (apply K_oC; (focus top_raiseB0)) | refine K_3 rfl rfl rfl ?_ | (refine K_im rfl rfl ?_ ?_; (focus k_caught0)) | refine K_sn ?_ | refine K_s2 ?_ | refine K_s1 ?_ | (apply K_st2m rfl; (focus with_reducible rfl); (focus rfl); (focus rfl); (focus k_caught0); (focus k_caught0); (focus top_strB)) | (apply K_bb; (focus top_strB)) | refine K_ssC ?_ | refine K_ssN ?_
  | (apply K_ps; (focus top_strB)) | (apply K_u; (focus rfl)) | (apply K_um; (focus (simp only [List.map_cons, List.map_nil] <;> rfl))) | (apply K_ap rfl; (focus k_caught0); (focus top_strB)) | (apply K_ex rfl; (focus k_caught0); (focus top_strB)) | refine K_if rfl ?_ ?_
  | (apply K_nx; (focus top_strB)) | (apply K_ct; (focus top_strB)) | (apply K_bk; (focus top_strB)) | refine K_rt ?_ | (with_reducible apply K_b; (focus top_reprB)) | with_reducible rfl | refine And.intro rfl (And.intro rfl ?_) | refine K_mt rfl rfl rfl ?_ | refine K_sl1 rfl ?_)
local macro_rules | `(tactic| fold_depth) => `(tactic| (apply Sp_mk; (focus rfl); (focus (dsimp only [startS, List.map, List.length, Nat.zero_add, Nat.reduceAdd, Nat.reduceSub, List.replicate, List.cons_append, List.nil_append] <;> rfl)); (focus (simp only [stsO, stO, Tgt.st, Tg.own, List.flatMap_cons, List.flatMap_nil, List.append_nil, List.nil_append, List.cons_append] <;> rfl))))
local macro_rules | `(tactic| top_caught0) => `(tactic| first
  | (refine srcF_r1 rfl ?_; k_caught0) | (refine srcF_r2S rfl rfl ?_ ?_ <;> k_caught0) | (refine srcF_r2 rfl rfl ⟨?_, ?_⟩ ⟨?_, ?_⟩ <;> k_caught0)
  | exact srcF_one (.tup isSeq_row) | exact srcF_one (.tup isSeq_tab) | exact srcF_one (.tup isSeq_nat) | exact srcF_enumR (.tup isSeq_row) | exact srcF_enumR (.tup isSeq_tab)
  | exact srcF_zipR (.tup isSeq_row) (.tup isSeq_row) | exact srcF_zipR (.tup isSeq_tab) (.tup isSeq_tab)
  | exact srcF_one (.live rfl (fun _ h => by rw [h]; rfl) rfl isLst_map) | exact srcF_one (.lst isLst_map) | exact srcF_one (.tup isSeq_map) | exact srcF_one (.tup isSeq_id))
local macro_rules | `(tactic| top_raise0) => `(tactic| (apply K_foS; (focus top_strB); (focus top_caught0)))

local macro_rules | `(tactic| k_memK) => `(tactic| (refine k_draw97 ?_ ?_ ?_ ?_; (focus assumption); (focus k_caught0); (focus k_caught0); intro r h hh hr0 hr1))
local macro_rules | `(tactic| k_memK) => `(tactic| (change V2 _ _ _ _ _; with_reducible first | refine v_from1 ?_ | refine v_to1 ?_))
local macro_rules | `(tactic| k_memK) => `(tactic| (change VI _ _ _ _; with_reducible first | (refine v_head ?_ ?_; (focus k_caught0)) | (refine v_last ?_ ?_; (focus k_caught0))))
local macro_rules | `(tactic| k_caughtN0) => `(tactic| exact src_zip (.tup isSeq_nat) (.tup isSeq_nat))
theorem b_no1 {P : Prop} : true = false → P := nofun
theorem b_no2 {P : Prop} : false = true → P := nofun
theorem b_no3 {P : Prop} : (!true) = true → P := nofun
theorem b_no4 {P : Prop} : (!false) = false → P := nofun
local macro_rules | `(tactic| k_memK) => `(tactic| with_reducible first | exact b_no1 | exact b_no2 | exact b_no3 | exact b_no4)
local macro_rules | `(tactic| k_caught0) => `(tactic| omega)
local macro_rules | `(tactic| k_caughtB) => `(tactic| with_reducible exact c__law_names (by assumption))
theorem is_row {k : Nat} {xs : List Nat} (h : xs.length ≤ LIM) : Same (k + 2) (natT xs) := .tup (by simpa using h) fun t ht => by
  obtain ⟨_, _, rfl⟩ := List.mem_map.mp ht
  exact .int
theorem is_cR {k : Nat} {a : Int} {xs : List Nat} (h : xs.length ≤ LIM) : Same (k + 3) (.tup [.int a, natT xs]) := .tup (Nat.le_of_ble_eq_true rfl) fun t ht => by
  rcases List.mem_cons.mp ht with e | e
  · rw [e]; exact .int
  · have : t = natT xs := by simpa using e
    rw [this]; exact is_row h
theorem c_isI {i : Int} : C__law_is [.p (.int i), .p (.int i)] = some (.p (.bl true), [none, none]) := c_is (k := 5) .int
theorem c_isI2 {i j : Int} (h : i = j) : C__law_is [.p (.int i), .p (.int j)] = some (.p (.bl true), [none, none]) := by rw [h]; exact c_isI
theorem c_isR {c : List Nat → Int} {xs : List Nat} (h : xs.length ≤ LIM) : C__law_is [.p (cR c xs), .p (cR c xs)] = some (.p (.bl true), [none, none]) := c_is (k := 5) (is_cR h)
def encD (q : List Nat × List Nat) : D := .p (natT q.1)
theorem v_itR {F : List (List Nat)} {i : Nat} {M : List Nat} {ρ : List S} {Q : R → List S → Prop} (h : F[i]? = some M) (hQ : Q (.rv (.p (natT M))) ρ) : VI (.l (F.map fun a => .p (natT a))) (.p (.int i)) ρ Q := by
  obtain ⟨hi, rfl⟩ := List.getElem?_eq_some_iff.mp h
  exact v_itl hi hQ
theorem dup {α : Type} : ∀ l : List α, l.zip l = l.map fun a => (a, a)
  | [] => rfl
  | a :: l => by simp [dup l]
theorem count_some (F : List (List Nat)) (c : List Nat → Int) (m : Int) : ((F.zip F).filter fun q => decide (c q.2 = m) && from0 q.1).length = ((F.filter from0).map c).countP fun z => decide (z = m) := by
  rw [dup, ← List.countP_eq_length_filter, List.countP_map, List.countP_map, List.countP_filter]
  rfl
theorem rows_lim59 {n : Nat} (h7 : n ≤ 7) : (rowsN n n).length < 2 ^ 59 := by
  have := rows_LIM h7
  have h5 : LIM = 16777216 := rfl
  omega
section
local macro_rules | `(tactic| k_memK) => `(tactic| (apply K_m1 (g := encD) (p := by assumption); (focus top_strB); (focus exact src_zip (.live rfl rfl isLst_map) (.live rfl rfl isLst_map)); (focus k_caught0)))
theorem law_ev (ns : List Int) (hn : ns.length ≤ 63) : ∃ os, C_law [ro ns] = some (B true, os) := by
  obtain ⟨h, e, hh⟩ := c__law_hand97 hn
  refine ⟨[some (ro ns)], Sp.eq ?_⟩
  delta C_law b_law
  fold_depth
  repeat k_memK
  refine K_f e (by top_strB) ?_
  repeat k_memK
  refine K_foR (n := 3) (fun i ρ => ∃ h, IsHand h ∧ ρ = [.val (ro ns), .val h, .no, .no, .no, .no, .no, .no, .no, .no, .no, .no, .no, .no, .no]) (by top_strB) (srcF_r1 rfl (by decide)) ⟨h, hh, rfl⟩ ?_ ?_
  · rintro i ρ hi ⟨h, hh, rfl⟩
    refine K_b (by top_reprB) ?_
    repeat k_memK
    refine k_sound97 (most := 6) (by assumption) (by decide) (by decide) fun h1 n f hh1 t s hn6 => ?_
    clear hn6
    have h7 := t.n7
    have n1 := t.n1
    have hl := lim7 h7
    have hL := rows_LIM h7
    repeat k_memK
    · rename_i row hr
      have p := rowsN_pm row hr
      refine K_f (c__law_length97 (by rw [p.len]; exact hl) p.lt) (by top_strB) ?_
      repeat k_memK
    repeat k_memK
    refine k_some97 (F := rowsN n n) (enc := natT) (by assumption) (names_pos n) (rows_lim59 h7) fun h2 row hh2 hr => ?_
    have p := rowsN_pm row hr
    repeat k_memK
    refine K_f (c_length_of t s p) (by top_strB) ?_
    repeat k_memK
    refine K_f (c__law_length97 (by rw [p.len]; exact hl) p.lt) (by top_strB) ?_
    repeat k_memK
    refine K_f c_isI (by top_strB) ?_
    repeat k_memK
    obtain ⟨x, r, hx⟩ := from0_some (n := n) (by omega)
    obtain ⟨y, s', hy⟩ : ∃ y s', rowsN n n = y :: s' := by
      have := names_pos n
      cases h : rowsN n n with
      | nil => rw [h] at this; simp at this
      | cons x r => exact ⟨x, r, rfl⟩
    have e0 := least0 (f := f) (by omega) hx hy
    obtain ⟨f1, f2, f3⟩ := idx_first (lenF f) y s'
    rw [e0, ← hy] at f1 f2 f3
    have f5 := Option.some.inj ((List.getElem?_eq_getElem f2).symm.trans f3)
    have f4 : mnOf (((rowsN n n).filter from0).map (lenF f)) = lenF f (fmin (lt0 f) x r) := by
      rw [hx]; exact (idx_first (lenF f) x r).1
    have pM := rowsN_pm (fmin (lt0 f) x r) (List.mem_filter.mp (hx ▸ fmin_mem (lt0 f) r x)).1
    have hM : lenF f (fmin (lt0 f) x r) ∈ (rowsN n n).map (lenF f) := List.mem_map.mpr ⟨_, pM.inRows, rfl⟩
    have hne : rowsN n n ≠ [] := by rw [hy]; simp
    obtain ⟨P, hP⟩ : ∃ P : List Nat × List Nat → Bool, P = fun q => decide (lenF f q.2 = lenF f (fmin (lt0 f) x r)) && from0 q.1 := ⟨_, rfl⟩
    have hz : ((rowsN n n).zip (rowsN n n)).length ≤ LIM := by simpa using hL
    refine K_f (c_least_round t s hx) (by top_strB) ?_
    repeat k_memK
    refine v_min1L hne ?_
    rw [f1]
    repeat k_memK
    refine v_min1L hne ?_
    rw [f1]
    repeat k_memK
    refine v_indexL hM ?_
    repeat k_memK
    rw [f5]
    refine K_f (c_isR (by rw [pM.len]; exact hl)) (by top_strB) ?_
    repeat k_memK
    · rename_i q hq
      have p1 := rowsN_pm q.1 (List.of_mem_zip hq).1
      have hlen := p1.len
      have hn1 : 0 < q.1.length := by omega
      repeat k_memK
      refine v_min1L hne ?_
      rw [f1]
      repeat k_memK
      refine ⟨by rw [hP]; simp [from0], rfl, fun _ => ?_⟩
      repeat k_memK
    repeat k_memK
    refine K_f (c_how_many_least t s hx) (by top_strB) ?_
    repeat k_memK
    have hc : (((rowsN n n).zip (rowsN n n)).filter P).length = (((rowsN n n).filter from0).map (lenF f)).countP fun z => decide (z = mnOf (((rowsN n n).filter from0).map (lenF f))) := by
      rw [hP, f4]; exact count_some _ _ _
    have hc2 := congrArg (fun (k : Nat) => (k : Int)) hc.symm
    refine K_f (c_isI2 hc2) (by top_strB) ?_
    clear hc2 hc hP hM hz hne f4 f5 f3 f2 f1 e0
    repeat k_memK
    · rename_i rA h3 hh3 ra0 ra1 rB h4 hh4 rb0 rb1 hcond
      obtain ⟨a, rfl⟩ : ∃ k : Nat, rA = k := ⟨rA.toNat, by omega⟩
      obtain ⟨b, rfl⟩ : ∃ k : Nat, rB = k := ⟨rB.toNat, by omega⟩
      have ha : a < n := by omega
      have hb : b < n := by omega
      clear ra0 ra1 rb0 rb1
      have hab : a ≠ b ∨ n = 1 := by
        simp at hcond
        omega
      clear hcond
      obtain ⟨x2, r2, hx2⟩ := ft_some ha hb hab
      generalize hS : (S.val (D.l (List.map encD (List.filter P ((rowsN n n).zip (rowsN n n)))))) = S8
      generalize hS6 : (S.val (D.l ((rowsN n n).map fun row => D.p (.int (lenF f row))))) = S6
      refine K_fo (xs := rowsN n n) (enc := fun a => D.p (natT a)) (fun pre ρ => ρ = [.val (ro ns), .val h4, .val (.p (.int (i : Nat))), .val (.p (tabT n f)), .val (.p (.int (n : Nat))), .val (.l ((rowsN n n).map fun a => .p (natT a))), S6, .no, S8, .val (.p (.int (a : Nat))), .val (.p (.int (b : Nat))), .val (.l ((pre.filter (fromTo a b)).map fun row => .p (cR (pathF f) row))), .no, .no, .no]) (by top_strB) (srcF_one (.live rfl (by rintro ρ0 ⟨i, rfl⟩; rfl) rfl isLst_map)) rfl ?_ ?_
      · rintro pre row post ρ hxx rfl
        have p := rowsN_pm row (by rw [hxx]; simp)
        have hlen := p.len
        have hn0 : 0 < row.length := by omega
        have hz : (row.zip (row.drop 1)).length ≤ LIM := by simp; omega
        have hpl : ((pre.filter (fromTo a b)).map fun row => D.p (cR (pathF f) row)).length < LIM := by
          have h1 := congrArg List.length hxx
          have h2 := List.length_filter_le (fromTo a b) pre
          simp at h1
          rw [List.length_map]
          omega
        refine K_b (by top_reprB) ?_
        repeat k_memK
        · rename_i hc q hq
          obtain ⟨k1, k2⟩ := path_lt p q hq
          repeat k_memK
        · rename_i hc
          have hk : fromTo a b row = true := by simpa [fromTo, Int.natCast_inj] using hc
          repeat k_memK
          rw [List.filter_append, List.map_append, show [row].filter (fromTo a b) = [row] by simp [hk]]
          rfl
        · intro hc
          have hk : fromTo a b row = false := by simpa [fromTo, Int.natCast_inj] using hc
          repeat k_memK
          rw [List.filter_append, List.map_append, show [row].filter (fromTo a b) = [] by simp [hk]]
          simp
      · rintro ρ rfl
        repeat k_memK
        refine K_f (c_least_path t s ha hb hab hx2) (by top_strB) ?_
        repeat k_memK
        rw [hx2]
        refine V_1 (o_min1R (pathF f) (by rw [← hx2]; exact (rowsN_lex n n).filter _)) ?_
        repeat k_memK
        have pQ := rowsN_pm (fmin (ltP f) x2 r2) (List.mem_filter.mp (hx2 ▸ fmin_mem (ltP f) r2 x2)).1
        refine K_f (c_isR (by rw [pQ.len]; exact hl)) (by top_strB) ?_
        repeat k_memK
        subst hS6 hS
        exact ⟨_, by assumption, rfl⟩
    · intro _
      repeat k_memK
      exact ⟨_, by assumption, rfl⟩
  · rintro ρ ⟨h, hh, rfl⟩
    repeat k_memK
end
end K53

set_option Elab.async false
set_option linter.all false
set_option maxRecDepth 100000
set_option maxHeartbeats 0
namespace K53
open PySem PySem.Spec PyProof.Rows L2 PF
/-! ### the text, def by def -/
abbrev top (i : Nat) : Stmt := PySem.Challenge.pw_farhouse_k53_whole_least_rounds_and_path.main.body.getD i (.Pass ⟨0, 0, 0, 0⟩)
def nums : List (Str × Int) := [("MOST_PLACES", 7), ("MOST_FAR", 1000)]
def bl : List Str := ["len", "all", "any", "sum", "min", "abs", "int", "str", "tuple", "list", "sorted", "isinstance", "range", "enumerate", "zip", "bool", "dict"]
def gl : List Str := ("_law_hand" : Str) :: ("_law_draw" : Str) :: ("_law_table" : Str) :: ("_law_some" : Str) :: ("_law_closing" : Str) :: ("_law_sound" : Str) :: ("_law_rows" : Str) :: ("_law_length" : Str) :: ("_law_is" : Str) :: ("is_sized" : Str) :: ("is_integer" : Str) :: ("is_within" : Str) :: ("is_table" : Str) :: ("check_table" : Str) :: ("short_triple" : Str) :: ("check_sound" : Str) :: ("are_all" : Str) :: ("check_round" : Str) :: ("raw_length" : Str) :: ("length_of" : Str) :: ("all_rows" : Str) :: ("rounds_from" : Str) :: ("raw_least" : Str) :: ("least_round" : Str) :: ("how_many_least" : Str) :: ("least_path" : Str) :: ("law" : Str) :: []

abbrev N__law_hand : List Str := ["script", "cells", "cell"]
abbrev f__law_hand : List Str := []
abbrev e__law_hand : List (Nat × List Nat) := []
abbrev s__law_hand : Stmt := top 30
def d__law_hand : He.DefD := ⟨("_law_hand", none), "_law_hand", "_law_hand", defArgs s__law_hand, defBody s__law_hand, defScope s__law_hand, [], []⟩
theorem S__law_hand : FnScope N__law_hand ["script"] (defScope s__law_hand) := ⟨rfl, rfl, rfl, by decide +kernel, rfl, by decide +kernel, by decide +kernel⟩
theorem r__law_hand : (defBody s__law_hand).map (stripS ⟨N__law_hand, f__law_hand, gsI nums, bl⟩ e__law_hand 60 60 (defScope s__law_hand)) = b__law_hand := by kernel_rfl

abbrev N__law_draw : List Str := ["hand", "many", "number", "cell", "figure"]
abbrev f__law_draw : List Str := []
abbrev e__law_draw : List (Nat × List Nat) := []
abbrev s__law_draw : Stmt := top 31
def d__law_draw : He.DefD := ⟨("_law_draw", none), "_law_draw", "_law_draw", defArgs s__law_draw, defBody s__law_draw, defScope s__law_draw, [], []⟩
theorem S__law_draw : FnScope N__law_draw ["hand", "many"] (defScope s__law_draw) := ⟨rfl, rfl, rfl, by decide +kernel, rfl, by decide +kernel, by decide +kernel⟩
theorem r__law_draw : (defBody s__law_draw).map (stripS ⟨N__law_draw, f__law_draw, gsI nums, bl⟩ e__law_draw 60 60 (defScope s__law_draw)) = b__law_draw := by kernel_rfl

abbrev N__law_table : List Str := ["hand", "many", "most", "rows", "i", "j", "place", "number", "row"]
abbrev f__law_table : List Str := ["_law_draw"]
abbrev e__law_table : List (Nat × List Nat) := [(114, [4, 5, 7]), (115, [5, 7])]
abbrev s__law_table : Stmt := top 33
def d__law_table : He.DefD := ⟨("_law_table", none), "_law_table", "_law_table", defArgs s__law_table, defBody s__law_table, defScope s__law_table, [], []⟩
theorem S__law_table : FnScope N__law_table ["hand", "many", "most"] (defScope s__law_table) := ⟨rfl, rfl, rfl, by decide +kernel, rfl, by decide +kernel, by decide +kernel⟩
theorem r__law_table : (defBody s__law_table).map (stripS ⟨N__law_table, f__law_table, gsI nums, bl⟩ e__law_table 60 60 (defScope s__law_table)) = b__law_table := by kernel_rfl

abbrev N__law_some : List Str := ["hand", "things"]
abbrev f__law_some : List Str := ["_law_draw"]
abbrev e__law_some : List (Nat × List Nat) := []
abbrev s__law_some : Stmt := top 32
def d__law_some : He.DefD := ⟨("_law_some", none), "_law_some", "_law_some", defArgs s__law_some, defBody s__law_some, defScope s__law_some, [], []⟩
theorem S__law_some : FnScope N__law_some ["hand", "things"] (defScope s__law_some) := ⟨rfl, rfl, rfl, by decide +kernel, rfl, by decide +kernel, by decide +kernel⟩
theorem r__law_some : (defBody s__law_some).map (stripS ⟨N__law_some, f__law_some, gsI nums, bl⟩ e__law_some 60 60 (defScope s__law_some)) = b__law_some := by kernel_rfl

abbrev N__law_closing : List Str := ["table", "rows", "many", "middle", "i", "row", "j"]
abbrev f__law_closing : List Str := []
abbrev e__law_closing : List (Nat × List Nat) := [(122, [3, 4, 6]), (123, [4, 6]), (124, [6])]
abbrev s__law_closing : Stmt := top 34
def d__law_closing : He.DefD := ⟨("_law_closing", none), "_law_closing", "_law_closing", defArgs s__law_closing, defBody s__law_closing, defScope s__law_closing, [], []⟩
theorem S__law_closing : FnScope N__law_closing ["table"] (defScope s__law_closing) := ⟨rfl, rfl, rfl, by decide +kernel, rfl, by decide +kernel, by decide +kernel⟩
theorem r__law_closing : (defBody s__law_closing).map (stripS ⟨N__law_closing, f__law_closing, gsI nums, bl⟩ e__law_closing 60 60 (defScope s__law_closing)) = b__law_closing := by kernel_rfl

abbrev N__law_sound : List Str := ["hand", "most", "table"]
abbrev f__law_sound : List Str := ["_law_table", "_law_draw", "_law_some", "_law_closing"]
abbrev e__law_sound : List (Nat × List Nat) := []
abbrev s__law_sound : Stmt := top 35
def d__law_sound : He.DefD := ⟨("_law_sound", none), "_law_sound", "_law_sound", defArgs s__law_sound, defBody s__law_sound, defScope s__law_sound, [], []⟩
theorem S__law_sound : FnScope N__law_sound ["hand", "most"] (defScope s__law_sound) := ⟨rfl, rfl, rfl, by decide +kernel, rfl, by decide +kernel, by decide +kernel⟩
theorem r__law_sound : (defBody s__law_sound).map (stripS ⟨N__law_sound, f__law_sound, gsI nums, bl⟩ e__law_sound 60 60 (defScope s__law_sound)) = b__law_sound := by kernel_rfl

abbrev N__law_rows : List Str := ["many", "found", "turn", "longer", "row", "one"]
abbrev f__law_rows : List Str := []
abbrev e__law_rows : List (Nat × List Nat) := [(132, [2, 3, 4]), (134, [4])]
abbrev s__law_rows : Stmt := top 36
def d__law_rows : He.DefD := ⟨("_law_rows", none), "_law_rows", "_law_rows", defArgs s__law_rows, defBody s__law_rows, defScope s__law_rows, [], []⟩
theorem S__law_rows : FnScope N__law_rows ["many"] (defScope s__law_rows) := ⟨rfl, rfl, rfl, by decide +kernel, rfl, by decide +kernel, by decide +kernel⟩
theorem r__law_rows : (defBody s__law_rows).map (stripS ⟨N__law_rows, f__law_rows, gsI nums, bl⟩ e__law_rows 60 60 (defScope s__law_rows)) = b__law_rows := by kernel_rfl

abbrev N__law_length : List Str := ["table", "row", "here", "there"]
abbrev f__law_length : List Str := []
abbrev e__law_length : List (Nat × List Nat) := []
abbrev s__law_length : Stmt := top 37
def d__law_length : He.DefD := ⟨("_law_length", none), "_law_length", "_law_length", defArgs s__law_length, defBody s__law_length, defScope s__law_length, [], []⟩
theorem S__law_length : FnScope N__law_length ["table", "row"] (defScope s__law_length) := ⟨rfl, rfl, rfl, by decide +kernel, rfl, by decide +kernel, by decide +kernel⟩
theorem r__law_length : (defBody s__law_length).map (stripS ⟨N__law_length, f__law_length, gsI nums, bl⟩ e__law_length 60 60 (defScope s__law_length)) = b__law_length := by kernel_rfl

abbrev N__law_is : List Str := ["told", "due", "key", "one", "two"]
abbrev f__law_is : List Str := ["_law_is"]
abbrev e__law_is : List (Nat × List Nat) := []
abbrev s__law_is : Stmt := top 38
def d__law_is : He.DefD := ⟨("_law_is", none), "_law_is", "_law_is", defArgs s__law_is, defBody s__law_is, defScope s__law_is, [], []⟩
theorem S__law_is : FnScope N__law_is ["told", "due"] (defScope s__law_is) := ⟨rfl, rfl, rfl, by decide +kernel, rfl, by decide +kernel, by decide +kernel⟩
theorem r__law_is : (defBody s__law_is).map (stripS ⟨N__law_is, f__law_is, gsI nums, bl⟩ e__law_is 60 60 (defScope s__law_is)) = b__law_is := by kernel_rfl

abbrev N_is_sized : List Str := ["thing", "low", "high"]
abbrev f_is_sized : List Str := []
abbrev e_is_sized : List (Nat × List Nat) := []
abbrev s_is_sized : Stmt := top 3
def d_is_sized : He.DefD := ⟨("is_sized", none), "is_sized", "is_sized", defArgs s_is_sized, defBody s_is_sized, defScope s_is_sized, [], []⟩
theorem S_is_sized : FnScope N_is_sized ["thing", "low", "high"] (defScope s_is_sized) := ⟨rfl, rfl, rfl, by decide +kernel, rfl, by decide +kernel, by decide +kernel⟩
theorem r_is_sized : (defBody s_is_sized).map (stripS ⟨N_is_sized, f_is_sized, gsI nums, bl⟩ e_is_sized 60 60 (defScope s_is_sized)) = b_is_sized := by kernel_rfl

abbrev N_is_integer : List Str := ["thing"]
abbrev f_is_integer : List Str := []
abbrev e_is_integer : List (Nat × List Nat) := []
abbrev s_is_integer : Stmt := top 1
def d_is_integer : He.DefD := ⟨("is_integer", none), "is_integer", "is_integer", defArgs s_is_integer, defBody s_is_integer, defScope s_is_integer, [], []⟩
theorem S_is_integer : FnScope N_is_integer ["thing"] (defScope s_is_integer) := ⟨rfl, rfl, rfl, by decide +kernel, rfl, by decide +kernel, by decide +kernel⟩
theorem r_is_integer : (defBody s_is_integer).map (stripS ⟨N_is_integer, f_is_integer, gsI nums, bl⟩ e_is_integer 60 60 (defScope s_is_integer)) = b_is_integer := by kernel_rfl

abbrev N_is_within : List Str := ["thing", "low", "high"]
abbrev f_is_within : List Str := ["is_integer"]
abbrev e_is_within : List (Nat × List Nat) := []
abbrev s_is_within : Stmt := top 2
def d_is_within : He.DefD := ⟨("is_within", none), "is_within", "is_within", defArgs s_is_within, defBody s_is_within, defScope s_is_within, [], []⟩
theorem S_is_within : FnScope N_is_within ["thing", "low", "high"] (defScope s_is_within) := ⟨rfl, rfl, rfl, by decide +kernel, rfl, by decide +kernel, by decide +kernel⟩
theorem r_is_within : (defBody s_is_within).map (stripS ⟨N_is_within, f_is_within, gsI nums, bl⟩ e_is_within 60 60 (defScope s_is_within)) = b_is_within := by kernel_rfl

abbrev N_is_table : List Str := ["thing", "i", "row", "one", "j"]
abbrev f_is_table : List Str := ["is_sized", "is_within"]
abbrev e_is_table : List (Nat × List Nat) := [(39, [1, 2])]
abbrev s_is_table : Stmt := top 16
def d_is_table : He.DefD := ⟨("is_table", none), "is_table", "is_table", defArgs s_is_table, defBody s_is_table, defScope s_is_table, [], []⟩
theorem S_is_table : FnScope N_is_table ["thing"] (defScope s_is_table) := ⟨rfl, rfl, rfl, by decide +kernel, rfl, by decide +kernel, by decide +kernel⟩
theorem r_is_table : (defBody s_is_table).map (stripS ⟨N_is_table, f_is_table, gsI nums, bl⟩ e_is_table 60 60 (defScope s_is_table)) = b_is_table := by kernel_rfl

abbrev N_check_table : List Str := ["thing"]
abbrev f_check_table : List Str := ["is_table"]
abbrev e_check_table : List (Nat × List Nat) := []
abbrev s_check_table : Stmt := top 17
def d_check_table : He.DefD := ⟨("check_table", none), "check_table", "check_table", defArgs s_check_table, defBody s_check_table, defScope s_check_table, [], []⟩
theorem S_check_table : FnScope N_check_table ["thing"] (defScope s_check_table) := ⟨rfl, rfl, rfl, by decide +kernel, rfl, by decide +kernel, by decide +kernel⟩
theorem r_check_table : (defBody s_check_table).map (stripS ⟨N_check_table, f_check_table, gsI nums, bl⟩ e_check_table 60 60 (defScope s_check_table)) = b_check_table := by kernel_rfl

abbrev N_short_triple : List Str := ["table", "places", "i", "j", "k"]
abbrev f_short_triple : List Str := []
abbrev e_short_triple : List (Nat × List Nat) := [(50, [2, 3, 4]), (51, [3, 4]), (52, [4])]
abbrev s_short_triple : Stmt := top 18
def d_short_triple : He.DefD := ⟨("short_triple", none), "short_triple", "short_triple", defArgs s_short_triple, defBody s_short_triple, defScope s_short_triple, [], []⟩
theorem S_short_triple : FnScope N_short_triple ["table"] (defScope s_short_triple) := ⟨rfl, rfl, rfl, by decide +kernel, rfl, by decide +kernel, by decide +kernel⟩
theorem r_short_triple : (defBody s_short_triple).map (stripS ⟨N_short_triple, f_short_triple, gsI nums, bl⟩ e_short_triple 60 60 (defScope s_short_triple)) = b_short_triple := by kernel_rfl

abbrev N_check_sound : List Str := ["table"]
abbrev f_check_sound : List Str := ["check_table", "short_triple"]
abbrev e_check_sound : List (Nat × List Nat) := []
abbrev s_check_sound : Stmt := top 19
def d_check_sound : He.DefD := ⟨("check_sound", none), "check_sound", "check_sound", defArgs s_check_sound, defBody s_check_sound, defScope s_check_sound, [], []⟩
theorem S_check_sound : FnScope N_check_sound ["table"] (defScope s_check_sound) := ⟨rfl, rfl, rfl, by decide +kernel, rfl, by decide +kernel, by decide +kernel⟩
theorem r_check_sound : (defBody s_check_sound).map (stripS ⟨N_check_sound, f_check_sound, gsI nums, bl⟩ e_check_sound 60 60 (defScope s_check_sound)) = b_check_sound := by kernel_rfl

abbrev N_are_all : List Str := ["thing", "many", "one"]
abbrev f_are_all : List Str := ["is_within", "is_sized"]
abbrev e_are_all : List (Nat × List Nat) := []
abbrev s_are_all : Stmt := top 4
def d_are_all : He.DefD := ⟨("are_all", none), "are_all", "are_all", defArgs s_are_all, defBody s_are_all, defScope s_are_all, [], []⟩
theorem S_are_all : FnScope N_are_all ["thing", "many"] (defScope s_are_all) := ⟨rfl, rfl, rfl, by decide +kernel, rfl, by decide +kernel, by decide +kernel⟩
theorem r_are_all : (defBody s_are_all).map (stripS ⟨N_are_all, f_are_all, gsI nums, bl⟩ e_are_all 60 60 (defScope s_are_all)) = b_are_all := by kernel_rfl

abbrev N_check_round : List Str := ["table", "thing"]
abbrev f_check_round : List Str := ["check_sound", "are_all"]
abbrev e_check_round : List (Nat × List Nat) := []
abbrev s_check_round : Stmt := top 22
def d_check_round : He.DefD := ⟨("check_round", none), "check_round", "check_round", defArgs s_check_round, defBody s_check_round, defScope s_check_round, [], []⟩
theorem S_check_round : FnScope N_check_round ["table", "thing"] (defScope s_check_round) := ⟨rfl, rfl, rfl, by decide +kernel, rfl, by decide +kernel, by decide +kernel⟩
theorem r_check_round : (defBody s_check_round).map (stripS ⟨N_check_round, f_check_round, gsI nums, bl⟩ e_check_round 60 60 (defScope s_check_round)) = b_check_round := by kernel_rfl

abbrev N_raw_length : List Str := ["table", "row", "i", "j"]
abbrev f_raw_length : List Str := []
abbrev e_raw_length : List (Nat × List Nat) := []
abbrev s_raw_length : Stmt := top 21
def d_raw_length : He.DefD := ⟨("raw_length", none), "raw_length", "raw_length", defArgs s_raw_length, defBody s_raw_length, defScope s_raw_length, [], []⟩
theorem S_raw_length : FnScope N_raw_length ["table", "row"] (defScope s_raw_length) := ⟨rfl, rfl, rfl, by decide +kernel, rfl, by decide +kernel, by decide +kernel⟩
theorem r_raw_length : (defBody s_raw_length).map (stripS ⟨N_raw_length, f_raw_length, gsI nums, bl⟩ e_raw_length 60 60 (defScope s_raw_length)) = b_raw_length := by kernel_rfl

abbrev N_length_of : List Str := ["table", "thing"]
abbrev f_length_of : List Str := ["check_round", "raw_length"]
abbrev e_length_of : List (Nat × List Nat) := []
abbrev s_length_of : Stmt := top 23
def d_length_of : He.DefD := ⟨("length_of", none), "length_of", "length_of", defArgs s_length_of, defBody s_length_of, defScope s_length_of, [], []⟩
theorem S_length_of : FnScope N_length_of ["table", "thing"] (defScope s_length_of) := ⟨rfl, rfl, rfl, by decide +kernel, rfl, by decide +kernel, by decide +kernel⟩
theorem r_length_of : (defBody s_length_of).map (stripS ⟨N_length_of, f_length_of, gsI nums, bl⟩ e_length_of 60 60 (defScope s_length_of)) = b_length_of := by kernel_rfl

abbrev N_all_rows : List Str := ["some", "found", "turn", "longer", "row", "one"]
abbrev f_all_rows : List Str := []
abbrev e_all_rows : List (Nat × List Nat) := [(14, [2, 3, 4]), (16, [4])]
abbrev s_all_rows : Stmt := top 5
def d_all_rows : He.DefD := ⟨("all_rows", none), "all_rows", "all_rows", defArgs s_all_rows, defBody s_all_rows, defScope s_all_rows, [], []⟩
theorem S_all_rows : FnScope N_all_rows ["some"] (defScope s_all_rows) := ⟨rfl, rfl, rfl, by decide +kernel, rfl, by decide +kernel, by decide +kernel⟩
theorem r_all_rows : (defBody s_all_rows).map (stripS ⟨N_all_rows, f_all_rows, gsI nums, bl⟩ e_all_rows 60 60 (defScope s_all_rows)) = b_all_rows := by kernel_rfl

abbrev N_rounds_from : List Str := ["table", "row"]
abbrev f_rounds_from : List Str := ["all_rows"]
abbrev e_rounds_from : List (Nat × List Nat) := []
abbrev s_rounds_from : Stmt := top 24
def d_rounds_from : He.DefD := ⟨("rounds_from", none), "rounds_from", "rounds_from", defArgs s_rounds_from, defBody s_rounds_from, defScope s_rounds_from, [], []⟩
theorem S_rounds_from : FnScope N_rounds_from ["table"] (defScope s_rounds_from) := ⟨rfl, rfl, rfl, by decide +kernel, rfl, by decide +kernel, by decide +kernel⟩
theorem r_rounds_from : (defBody s_rounds_from).map (stripS ⟨N_rounds_from, f_rounds_from, gsI nums, bl⟩ e_rounds_from 60 60 (defScope s_rounds_from)) = b_rounds_from := by kernel_rfl

abbrev N_raw_least : List Str := ["table", "row"]
abbrev f_raw_least : List Str := ["rounds_from", "raw_length"]
abbrev e_raw_least : List (Nat × List Nat) := []
abbrev s_raw_least : Stmt := top 25
def d_raw_least : He.DefD := ⟨("raw_least", none), "raw_least", "raw_least", defArgs s_raw_least, defBody s_raw_least, defScope s_raw_least, [], []⟩
theorem S_raw_least : FnScope N_raw_least ["table"] (defScope s_raw_least) := ⟨rfl, rfl, rfl, by decide +kernel, rfl, by decide +kernel, by decide +kernel⟩
theorem r_raw_least : (defBody s_raw_least).map (stripS ⟨N_raw_least, f_raw_least, gsI nums, bl⟩ e_raw_least 60 60 (defScope s_raw_least)) = b_raw_least := by kernel_rfl

abbrev N_least_round : List Str := ["table"]
abbrev f_least_round : List Str := ["check_sound", "raw_least"]
abbrev e_least_round : List (Nat × List Nat) := []
abbrev s_least_round : Stmt := top 26
def d_least_round : He.DefD := ⟨("least_round", none), "least_round", "least_round", defArgs s_least_round, defBody s_least_round, defScope s_least_round, [], []⟩
theorem S_least_round : FnScope N_least_round ["table"] (defScope s_least_round) := ⟨rfl, rfl, rfl, by decide +kernel, rfl, by decide +kernel, by decide +kernel⟩
theorem r_least_round : (defBody s_least_round).map (stripS ⟨N_least_round, f_least_round, gsI nums, bl⟩ e_least_round 60 60 (defScope s_least_round)) = b_least_round := by kernel_rfl

abbrev N_how_many_least : List Str := ["table", "lengths", "row"]
abbrev f_how_many_least : List Str := ["check_sound", "rounds_from", "raw_length"]
abbrev e_how_many_least : List (Nat × List Nat) := []
abbrev s_how_many_least : Stmt := top 27
def d_how_many_least : He.DefD := ⟨("how_many_least", none), "how_many_least", "how_many_least", defArgs s_how_many_least, defBody s_how_many_least, defScope s_how_many_least, [], []⟩
theorem S_how_many_least : FnScope N_how_many_least ["table"] (defScope s_how_many_least) := ⟨rfl, rfl, rfl, by decide +kernel, rfl, by decide +kernel, by decide +kernel⟩
theorem r_how_many_least : (defBody s_how_many_least).map (stripS ⟨N_how_many_least, f_how_many_least, gsI nums, bl⟩ e_how_many_least 60 60 (defScope s_how_many_least)) = b_how_many_least := by kernel_rfl

abbrev N_least_path : List Str := ["table", "i", "j", "place", "rows", "row", "a", "b"]
abbrev f_least_path : List Str := ["check_sound", "is_within", "all_rows"]
abbrev e_least_path : List (Nat × List Nat) := [(83, [3])]
abbrev s_least_path : Stmt := top 28
def d_least_path : He.DefD := ⟨("least_path", none), "least_path", "least_path", defArgs s_least_path, defBody s_least_path, defScope s_least_path, [], []⟩
theorem S_least_path : FnScope N_least_path ["table", "i", "j"] (defScope s_least_path) := ⟨rfl, rfl, rfl, by decide +kernel, rfl, by decide +kernel, by decide +kernel⟩
theorem r_least_path : (defBody s_least_path).map (stripS ⟨N_least_path, f_least_path, gsI nums, bl⟩ e_least_path 60 60 (defScope s_least_path)) = b_least_path := by kernel_rfl

abbrev N_law : List Str := ["script", "hand", "turn", "table", "many", "rounds", "sums", "row", "some", "i", "j", "paths", "total", "here", "there"]
abbrev f_law : List Str := ["_law_hand", "_law_sound", "_law_rows", "_law_length", "_law_some", "_law_is", "length_of", "least_round", "how_many_least", "_law_draw", "least_path"]
abbrev e_law : List (Nat × List Nat) := [(154, [2, 3, 4, 5, 6, 7, 8, 9, 10, 11]), (170, [7])]
abbrev s_law : Stmt := top 39
def d_law : He.DefD := ⟨("law", none), "law", "law", defArgs s_law, defBody s_law, defScope s_law, [], []⟩
theorem S_law : FnScope N_law ["script"] (defScope s_law) := ⟨rfl, rfl, rfl, by decide +kernel, rfl, by decide +kernel, by decide +kernel⟩
theorem r_law : (defBody s_law).map (stripS ⟨N_law, f_law, gsI nums, bl⟩ e_law 60 60 (defScope s_law)) = b_law := by kernel_rfl

def fn : List He.DefD := [d__law_hand, d__law_draw, d__law_table, d__law_some, d__law_closing, d__law_sound, d__law_rows, d__law_length, d__law_is, d_is_sized, d_is_integer, d_is_within, d_is_table, d_check_table, d_short_triple, d_check_sound, d_are_all, d_check_round, d_raw_length, d_length_of, d_all_rows, d_rounds_from, d_raw_least, d_least_round, d_how_many_least, d_least_path, d_law]
abbrev fa : List He.Fa := faOf gl nums bl
section
variable {P : Program} {w : World} {K : PySem.W.Frag} {mg : Str → Option Value} {base h : Heap}
theorem k__law_hand (X : K.In h) (G : h.Ns mainGlobals mg) (c : He.SaysD fa fn K) : Nonempty (CalG P w K mg base 1 C__law_hand "_law_hand") := by
  obtain ⟨fd, F⟩ := c.def_ 0 (d := d__law_hand) rfl
  exact cal_of (k := 0) (mo_of X G c) F (glo_of X G c (by decide +kernel)) S__law_hand (.nil) (congrArg (mk [] 3 1) r__law_hand) fun _ _ _ _ _ _ us hl => match us, hl with | [_], _ => rfl
theorem k__law_draw (X : K.In h) (G : h.Ns mainGlobals mg) (c : He.SaysD fa fn K) : Nonempty (CalG P w K mg base 1 C__law_draw "_law_draw") := by
  obtain ⟨fd, F⟩ := c.def_ 1 (d := d__law_draw) rfl
  exact cal_of (k := 0) (mo_of X G c) F (glo_of X G c (by decide +kernel)) S__law_draw (.nil) (congrArg (mk [] 5 2) r__law_draw) fun _ _ _ _ _ _ us hl => match us, hl with | [_, _], _ => rfl
theorem k__law_table (X : K.In h) (G : h.Ns mainGlobals mg) (c : He.SaysD fa fn K) (h__law_draw : Nonempty (CalG P w K mg base 1 C__law_draw "_law_draw")) : Nonempty (CalG P w K mg base 2 C__law_table "_law_table") := by
  obtain ⟨fd, F⟩ := c.def_ 2 (d := d__law_table) rfl
  exact cal_of (k := 1) (mo_of X G c) F (glo_of X G c (by decide +kernel)) S__law_table (.cons h__law_draw (by decide) (.nil)) (congrArg (mk [C__law_draw] 9 3) r__law_table) fun _ _ _ _ _ _ us hl => match us, hl with | [_, _, _], _ => rfl
theorem k__law_some (X : K.In h) (G : h.Ns mainGlobals mg) (c : He.SaysD fa fn K) (h__law_draw : Nonempty (CalG P w K mg base 1 C__law_draw "_law_draw")) : Nonempty (CalG P w K mg base 2 C__law_some "_law_some") := by
  obtain ⟨fd, F⟩ := c.def_ 3 (d := d__law_some) rfl
  exact cal_of (k := 1) (mo_of X G c) F (glo_of X G c (by decide +kernel)) S__law_some (.cons h__law_draw (by decide) (.nil)) (congrArg (mk [C__law_draw] 2 2) r__law_some) fun _ _ _ _ _ _ us hl => match us, hl with | [_, _], _ => rfl
theorem k__law_closing (X : K.In h) (G : h.Ns mainGlobals mg) (c : He.SaysD fa fn K) : Nonempty (CalG P w K mg base 1 C__law_closing "_law_closing") := by
  obtain ⟨fd, F⟩ := c.def_ 4 (d := d__law_closing) rfl
  exact cal_of (k := 0) (mo_of X G c) F (glo_of X G c (by decide +kernel)) S__law_closing (.nil) (congrArg (mk [] 7 1) r__law_closing) fun _ _ _ _ _ _ us hl => match us, hl with | [_], _ => rfl
theorem k__law_sound (X : K.In h) (G : h.Ns mainGlobals mg) (c : He.SaysD fa fn K) (h__law_table : Nonempty (CalG P w K mg base 2 C__law_table "_law_table")) (h__law_draw : Nonempty (CalG P w K mg base 1 C__law_draw "_law_draw")) (h__law_some : Nonempty (CalG P w K mg base 2 C__law_some "_law_some")) (h__law_closing : Nonempty (CalG P w K mg base 1 C__law_closing "_law_closing")) : Nonempty (CalG P w K mg base 3 C__law_sound "_law_sound") := by
  obtain ⟨fd, F⟩ := c.def_ 5 (d := d__law_sound) rfl
  exact cal_of (k := 2) (mo_of X G c) F (glo_of X G c (by decide +kernel)) S__law_sound (.cons h__law_table (by decide) (.cons h__law_draw (by decide) (.cons h__law_some (by decide) (.cons h__law_closing (by decide) (.nil))))) (congrArg (mk [C__law_table, C__law_draw, C__law_some, C__law_closing] 3 2) r__law_sound) fun _ _ _ _ _ _ us hl => match us, hl with | [_, _], _ => rfl
theorem k__law_rows (X : K.In h) (G : h.Ns mainGlobals mg) (c : He.SaysD fa fn K) : Nonempty (CalG P w K mg base 1 C__law_rows "_law_rows") := by
  obtain ⟨fd, F⟩ := c.def_ 6 (d := d__law_rows) rfl
  exact cal_of (k := 0) (mo_of X G c) F (glo_of X G c (by decide +kernel)) S__law_rows (.nil) (congrArg (mk [] 6 1) r__law_rows) fun _ _ _ _ _ _ us hl => match us, hl with | [_], _ => rfl
theorem k__law_length (X : K.In h) (G : h.Ns mainGlobals mg) (c : He.SaysD fa fn K) : Nonempty (CalG P w K mg base 1 C__law_length "_law_length") := by
  obtain ⟨fd, F⟩ := c.def_ 7 (d := d__law_length) rfl
  exact cal_of (k := 0) (mo_of X G c) F (glo_of X G c (by decide +kernel)) S__law_length (.nil) (congrArg (mk [] 4 2) r__law_length) fun _ _ _ _ _ _ us hl => match us, hl with | [_, _], _ => rfl
theorem kk__law_is (X : K.In h) (G : h.Ns mainGlobals mg) (c : He.SaysD fa fn K) (k : Nat) : Nonempty (CalG P w K mg base (0 + k + 1) (recC [] 5 2 b__law_is k) "_law_is") := by
  obtain ⟨fd, F⟩ := c.def_ 8 (d := d__law_is) rfl
  induction k with
  | zero => exact cal_none F (glo_of X G c (by decide +kernel)) S__law_is fun _ _ _ _ _ _ us hl => match us, hl with | [_, _], _ => rfl
  | succ k ih => exact cal_of (k := 0 + k + 1) (mo_of X G c) F (glo_of X G c (by decide +kernel)) S__law_is (.cons ih (Nat.le_refl _) (.nil)) (congrArg (mk ((recC [] 5 2 b__law_is k) :: []) 5 2) r__law_is) fun _ _ _ _ _ _ us hl => match us, hl with | [_, _], _ => rfl
theorem k__law_is (X : K.In h) (G : h.Ns mainGlobals mg) (c : He.SaysD fa fn K) : Nonempty (CalG P w K mg base 6 C__law_is "_law_is") := kk__law_is X G c 5
theorem k_is_sized (X : K.In h) (G : h.Ns mainGlobals mg) (c : He.SaysD fa fn K) : Nonempty (CalG P w K mg base 1 C_is_sized "is_sized") := by
  obtain ⟨fd, F⟩ := c.def_ 9 (d := d_is_sized) rfl
  exact cal_of (k := 0) (mo_of X G c) F (glo_of X G c (by decide +kernel)) S_is_sized (.nil) (congrArg (mk [] 3 3) r_is_sized) fun _ _ _ _ _ _ us hl => match us, hl with | [_, _, _], _ => rfl
theorem k_is_integer (X : K.In h) (G : h.Ns mainGlobals mg) (c : He.SaysD fa fn K) : Nonempty (CalG P w K mg base 1 C_is_integer "is_integer") := by
  obtain ⟨fd, F⟩ := c.def_ 10 (d := d_is_integer) rfl
  exact cal_of (k := 0) (mo_of X G c) F (glo_of X G c (by decide +kernel)) S_is_integer (.nil) (congrArg (mk [] 1 1) r_is_integer) fun _ _ _ _ _ _ us hl => match us, hl with | [_], _ => rfl
theorem k_is_within (X : K.In h) (G : h.Ns mainGlobals mg) (c : He.SaysD fa fn K) (h_is_integer : Nonempty (CalG P w K mg base 1 C_is_integer "is_integer")) : Nonempty (CalG P w K mg base 2 C_is_within "is_within") := by
  obtain ⟨fd, F⟩ := c.def_ 11 (d := d_is_within) rfl
  exact cal_of (k := 1) (mo_of X G c) F (glo_of X G c (by decide +kernel)) S_is_within (.cons h_is_integer (by decide) (.nil)) (congrArg (mk [C_is_integer] 3 3) r_is_within) fun _ _ _ _ _ _ us hl => match us, hl with | [_, _, _], _ => rfl
theorem k_is_table (X : K.In h) (G : h.Ns mainGlobals mg) (c : He.SaysD fa fn K) (h_is_sized : Nonempty (CalG P w K mg base 1 C_is_sized "is_sized")) (h_is_within : Nonempty (CalG P w K mg base 2 C_is_within "is_within")) : Nonempty (CalG P w K mg base 3 C_is_table "is_table") := by
  obtain ⟨fd, F⟩ := c.def_ 12 (d := d_is_table) rfl
  exact cal_of (k := 2) (mo_of X G c) F (glo_of X G c (by decide +kernel)) S_is_table (.cons h_is_sized (by decide) (.cons h_is_within (by decide) (.nil))) (congrArg (mk [C_is_sized, C_is_within] 5 1) r_is_table) fun _ _ _ _ _ _ us hl => match us, hl with | [_], _ => rfl
theorem k_check_table (X : K.In h) (G : h.Ns mainGlobals mg) (c : He.SaysD fa fn K) (h_is_table : Nonempty (CalG P w K mg base 3 C_is_table "is_table")) : Nonempty (CalG P w K mg base 4 C_check_table "check_table") := by
  obtain ⟨fd, F⟩ := c.def_ 13 (d := d_check_table) rfl
  exact cal_of (k := 3) (mo_of X G c) F (glo_of X G c (by decide +kernel)) S_check_table (.cons h_is_table (by decide) (.nil)) (congrArg (mk [C_is_table] 1 1) r_check_table) fun _ _ _ _ _ _ us hl => match us, hl with | [_], _ => rfl
theorem k_short_triple (X : K.In h) (G : h.Ns mainGlobals mg) (c : He.SaysD fa fn K) : Nonempty (CalG P w K mg base 1 C_short_triple "short_triple") := by
  obtain ⟨fd, F⟩ := c.def_ 14 (d := d_short_triple) rfl
  exact cal_of (k := 0) (mo_of X G c) F (glo_of X G c (by decide +kernel)) S_short_triple (.nil) (congrArg (mk [] 5 1) r_short_triple) fun _ _ _ _ _ _ us hl => match us, hl with | [_], _ => rfl
theorem k_check_sound (X : K.In h) (G : h.Ns mainGlobals mg) (c : He.SaysD fa fn K) (h_check_table : Nonempty (CalG P w K mg base 4 C_check_table "check_table")) (h_short_triple : Nonempty (CalG P w K mg base 1 C_short_triple "short_triple")) : Nonempty (CalG P w K mg base 5 C_check_sound "check_sound") := by
  obtain ⟨fd, F⟩ := c.def_ 15 (d := d_check_sound) rfl
  exact cal_of (k := 4) (mo_of X G c) F (glo_of X G c (by decide +kernel)) S_check_sound (.cons h_check_table (by decide) (.cons h_short_triple (by decide) (.nil))) (congrArg (mk [C_check_table, C_short_triple] 1 1) r_check_sound) fun _ _ _ _ _ _ us hl => match us, hl with | [_], _ => rfl
theorem k_are_all (X : K.In h) (G : h.Ns mainGlobals mg) (c : He.SaysD fa fn K) (h_is_within : Nonempty (CalG P w K mg base 2 C_is_within "is_within")) (h_is_sized : Nonempty (CalG P w K mg base 1 C_is_sized "is_sized")) : Nonempty (CalG P w K mg base 3 C_are_all "are_all") := by
  obtain ⟨fd, F⟩ := c.def_ 16 (d := d_are_all) rfl
  exact cal_of (k := 2) (mo_of X G c) F (glo_of X G c (by decide +kernel)) S_are_all (.cons h_is_within (by decide) (.cons h_is_sized (by decide) (.nil))) (congrArg (mk [C_is_within, C_is_sized] 3 2) r_are_all) fun _ _ _ _ _ _ us hl => match us, hl with | [_, _], _ => rfl
theorem k_check_round (X : K.In h) (G : h.Ns mainGlobals mg) (c : He.SaysD fa fn K) (h_check_sound : Nonempty (CalG P w K mg base 5 C_check_sound "check_sound")) (h_are_all : Nonempty (CalG P w K mg base 3 C_are_all "are_all")) : Nonempty (CalG P w K mg base 6 C_check_round "check_round") := by
  obtain ⟨fd, F⟩ := c.def_ 17 (d := d_check_round) rfl
  exact cal_of (k := 5) (mo_of X G c) F (glo_of X G c (by decide +kernel)) S_check_round (.cons h_check_sound (by decide) (.cons h_are_all (by decide) (.nil))) (congrArg (mk [C_check_sound, C_are_all] 2 2) r_check_round) fun _ _ _ _ _ _ us hl => match us, hl with | [_, _], _ => rfl
theorem k_raw_length (X : K.In h) (G : h.Ns mainGlobals mg) (c : He.SaysD fa fn K) : Nonempty (CalG P w K mg base 1 C_raw_length "raw_length") := by
  obtain ⟨fd, F⟩ := c.def_ 18 (d := d_raw_length) rfl
  exact cal_of (k := 0) (mo_of X G c) F (glo_of X G c (by decide +kernel)) S_raw_length (.nil) (congrArg (mk [] 4 2) r_raw_length) fun _ _ _ _ _ _ us hl => match us, hl with | [_, _], _ => rfl
theorem k_length_of (X : K.In h) (G : h.Ns mainGlobals mg) (c : He.SaysD fa fn K) (h_check_round : Nonempty (CalG P w K mg base 6 C_check_round "check_round")) (h_raw_length : Nonempty (CalG P w K mg base 1 C_raw_length "raw_length")) : Nonempty (CalG P w K mg base 7 C_length_of "length_of") := by
  obtain ⟨fd, F⟩ := c.def_ 19 (d := d_length_of) rfl
  exact cal_of (k := 6) (mo_of X G c) F (glo_of X G c (by decide +kernel)) S_length_of (.cons h_check_round (by decide) (.cons h_raw_length (by decide) (.nil))) (congrArg (mk [C_check_round, C_raw_length] 2 2) r_length_of) fun _ _ _ _ _ _ us hl => match us, hl with | [_, _], _ => rfl
theorem k_all_rows (X : K.In h) (G : h.Ns mainGlobals mg) (c : He.SaysD fa fn K) : Nonempty (CalG P w K mg base 1 C_all_rows "all_rows") := by
  obtain ⟨fd, F⟩ := c.def_ 20 (d := d_all_rows) rfl
  exact cal_of (k := 0) (mo_of X G c) F (glo_of X G c (by decide +kernel)) S_all_rows (.nil) (congrArg (mk [] 6 1) r_all_rows) fun _ _ _ _ _ _ us hl => match us, hl with | [_], _ => rfl
theorem k_rounds_from (X : K.In h) (G : h.Ns mainGlobals mg) (c : He.SaysD fa fn K) (h_all_rows : Nonempty (CalG P w K mg base 1 C_all_rows "all_rows")) : Nonempty (CalG P w K mg base 2 C_rounds_from "rounds_from") := by
  obtain ⟨fd, F⟩ := c.def_ 21 (d := d_rounds_from) rfl
  exact cal_of (k := 1) (mo_of X G c) F (glo_of X G c (by decide +kernel)) S_rounds_from (.cons h_all_rows (by decide) (.nil)) (congrArg (mk [C_all_rows] 2 1) r_rounds_from) fun _ _ _ _ _ _ us hl => match us, hl with | [_], _ => rfl
theorem k_raw_least (X : K.In h) (G : h.Ns mainGlobals mg) (c : He.SaysD fa fn K) (h_rounds_from : Nonempty (CalG P w K mg base 2 C_rounds_from "rounds_from")) (h_raw_length : Nonempty (CalG P w K mg base 1 C_raw_length "raw_length")) : Nonempty (CalG P w K mg base 3 C_raw_least "raw_least") := by
  obtain ⟨fd, F⟩ := c.def_ 22 (d := d_raw_least) rfl
  exact cal_of (k := 2) (mo_of X G c) F (glo_of X G c (by decide +kernel)) S_raw_least (.cons h_rounds_from (by decide) (.cons h_raw_length (by decide) (.nil))) (congrArg (mk [C_rounds_from, C_raw_length] 2 1) r_raw_least) fun _ _ _ _ _ _ us hl => match us, hl with | [_], _ => rfl
theorem k_least_round (X : K.In h) (G : h.Ns mainGlobals mg) (c : He.SaysD fa fn K) (h_check_sound : Nonempty (CalG P w K mg base 5 C_check_sound "check_sound")) (h_raw_least : Nonempty (CalG P w K mg base 3 C_raw_least "raw_least")) : Nonempty (CalG P w K mg base 6 C_least_round "least_round") := by
  obtain ⟨fd, F⟩ := c.def_ 23 (d := d_least_round) rfl
  exact cal_of (k := 5) (mo_of X G c) F (glo_of X G c (by decide +kernel)) S_least_round (.cons h_check_sound (by decide) (.cons h_raw_least (by decide) (.nil))) (congrArg (mk [C_check_sound, C_raw_least] 1 1) r_least_round) fun _ _ _ _ _ _ us hl => match us, hl with | [_], _ => rfl
theorem k_how_many_least (X : K.In h) (G : h.Ns mainGlobals mg) (c : He.SaysD fa fn K) (h_check_sound : Nonempty (CalG P w K mg base 5 C_check_sound "check_sound")) (h_rounds_from : Nonempty (CalG P w K mg base 2 C_rounds_from "rounds_from")) (h_raw_length : Nonempty (CalG P w K mg base 1 C_raw_length "raw_length")) : Nonempty (CalG P w K mg base 6 C_how_many_least "how_many_least") := by
  obtain ⟨fd, F⟩ := c.def_ 24 (d := d_how_many_least) rfl
  exact cal_of (k := 5) (mo_of X G c) F (glo_of X G c (by decide +kernel)) S_how_many_least (.cons h_check_sound (by decide) (.cons h_rounds_from (by decide) (.cons h_raw_length (by decide) (.nil)))) (congrArg (mk [C_check_sound, C_rounds_from, C_raw_length] 3 1) r_how_many_least) fun _ _ _ _ _ _ us hl => match us, hl with | [_], _ => rfl
theorem k_least_path (X : K.In h) (G : h.Ns mainGlobals mg) (c : He.SaysD fa fn K) (h_check_sound : Nonempty (CalG P w K mg base 5 C_check_sound "check_sound")) (h_is_within : Nonempty (CalG P w K mg base 2 C_is_within "is_within")) (h_all_rows : Nonempty (CalG P w K mg base 1 C_all_rows "all_rows")) : Nonempty (CalG P w K mg base 6 C_least_path "least_path") := by
  obtain ⟨fd, F⟩ := c.def_ 25 (d := d_least_path) rfl
  exact cal_of (k := 5) (mo_of X G c) F (glo_of X G c (by decide +kernel)) S_least_path (.cons h_check_sound (by decide) (.cons h_is_within (by decide) (.cons h_all_rows (by decide) (.nil)))) (congrArg (mk [C_check_sound, C_is_within, C_all_rows] 8 3) r_least_path) fun _ _ _ _ _ _ us hl => match us, hl with | [_, _, _], _ => rfl
theorem law_ok (X : K.In h) (G : h.Ns mainGlobals mg) (c : He.SaysD fa fn K) : ∃ fd, (∀ (s : Shared) (v : Value), BindsTo s fd ⟨[v], []⟩ [("script", v)]) ∧ ∀ base : Heap, FnOk P w K mg base CXn 8 (He.ga K "law") fd ["script"] (spC K C_law) := by
  obtain ⟨fd, F⟩ := c.def_ 26 (d := d_law) rfl
  refine ⟨fd, law_of (k := 7) (Γ := [C__law_hand, C__law_sound, C__law_rows, C__law_length, C__law_some, C__law_is, C_length_of, C_least_round, C_how_many_least, C__law_draw, C_least_path]) (mo_of X G c) F S_law (fun base => ?_) (congrArg (mk [C__law_hand, C__law_sound, C__law_rows, C__law_length, C__law_some, C__law_is, C_length_of, C_least_round, C_how_many_least, C__law_draw, C_least_path] 15 1) r_law) fun _ _ _ _ _ _ us hl => match us, hl with | [_], _ => rfl⟩
  have h__law_hand := k__law_hand (P := P) (w := w) (base := base) X G c
  have h__law_draw := k__law_draw (P := P) (w := w) (base := base) X G c
  have h__law_table := k__law_table (P := P) (w := w) (base := base) X G c h__law_draw
  have h__law_some := k__law_some (P := P) (w := w) (base := base) X G c h__law_draw
  have h__law_closing := k__law_closing (P := P) (w := w) (base := base) X G c
  have h__law_sound := k__law_sound (P := P) (w := w) (base := base) X G c h__law_table h__law_draw h__law_some h__law_closing
  have h__law_rows := k__law_rows (P := P) (w := w) (base := base) X G c
  have h__law_length := k__law_length (P := P) (w := w) (base := base) X G c
  have h__law_is := k__law_is (P := P) (w := w) (base := base) X G c
  have h_is_sized := k_is_sized (P := P) (w := w) (base := base) X G c
  have h_is_integer := k_is_integer (P := P) (w := w) (base := base) X G c
  have h_is_within := k_is_within (P := P) (w := w) (base := base) X G c h_is_integer
  have h_is_table := k_is_table (P := P) (w := w) (base := base) X G c h_is_sized h_is_within
  have h_check_table := k_check_table (P := P) (w := w) (base := base) X G c h_is_table
  have h_short_triple := k_short_triple (P := P) (w := w) (base := base) X G c
  have h_check_sound := k_check_sound (P := P) (w := w) (base := base) X G c h_check_table h_short_triple
  have h_are_all := k_are_all (P := P) (w := w) (base := base) X G c h_is_within h_is_sized
  have h_check_round := k_check_round (P := P) (w := w) (base := base) X G c h_check_sound h_are_all
  have h_raw_length := k_raw_length (P := P) (w := w) (base := base) X G c
  have h_length_of := k_length_of (P := P) (w := w) (base := base) X G c h_check_round h_raw_length
  have h_all_rows := k_all_rows (P := P) (w := w) (base := base) X G c
  have h_rounds_from := k_rounds_from (P := P) (w := w) (base := base) X G c h_all_rows
  have h_raw_least := k_raw_least (P := P) (w := w) (base := base) X G c h_rounds_from h_raw_length
  have h_least_round := k_least_round (P := P) (w := w) (base := base) X G c h_check_sound h_raw_least
  have h_how_many_least := k_how_many_least (P := P) (w := w) (base := base) X G c h_check_sound h_rounds_from h_raw_length
  have h_least_path := k_least_path (P := P) (w := w) (base := base) X G c h_check_sound h_is_within h_all_rows
  exact .cons h__law_hand (by decide) (.cons h__law_sound (by decide) (.cons h__law_rows (by decide) (.cons h__law_length (by decide) (.cons h__law_some (by decide) (.cons h__law_is (by decide) (.cons h_length_of (by decide) (.cons h_least_round (by decide) (.cons h_how_many_least (by decide) (.cons h__law_draw (by decide) (.cons h_least_path (by decide) (.nil)))))))))))
end
def loose0 : List Str := ["is_integer", "is_within", "is_sized", "are_all", "all_rows", "FarError", "NoPlace", "NoRound", "NoTable", "Same", "Unsound", "MOST_PLACES", "MOST_FAR", "is_table", "check_table", "short_triple", "check_sound", "raw_length", "check_round", "length_of", "rounds_from", "raw_least", "least_round", "how_many_least", "least_path", "_law_hand", "_law_draw", "_law_some", "_law_table", "_law_closing"]
def loose1 : List Str := ["_law_sound", "_law_rows", "_law_length", "_law_is"]
def loose : List Str := loose0 ++ loose1
/-! ### the head -/
abbrev R : PySem.W.OpenRow := PySem.W.OpenLaw.row PySem.Challenge.rw_farhouse_k53_whole_least_rounds_and_path
abbrev hk : PySem.W.Hook := He.hookD 4 fa fn
def ob (s : PySem.W.SharedT) : He.AlD := He.obsDG 4 fa fn (HandSHeadRun.getT s)
theorem ob_eq (s : PySem.W.SharedT) : ob s = hk.obs s.abs := He.obsDG_eq (HandSHeadRun.getT_eq s)
theorem run (w : World) : HandSHeadRun.RunEq R (PySem.W.view R.prog [39]) hk ob 4000 loose w := by
  intro os
  kernel_rfl
theorem claim (ev : ∀ ns : List Int, ns.length ≤ 63 → ∃ os, C_law [ro ns] = some (B true, os)) : PySem.Challenge.rw_farhouse_k53_whole_least_rounds_and_path.Holds := by
  w_on; o_law
  refine HandSHeadRun.head_any (r := PySem.W.OpenLaw.row PySem.Challenge.rw_farhouse_k53_whole_least_rounds_and_path) (q := PySem.W.view (PySem.W.OpenLaw.row PySem.Challenge.rw_farhouse_k53_whole_least_rounds_and_path).prog [39]) (H := hk) (ob := ob) (M := 4000) (loose := loose) (d := HandSHeadRun.topDef (PySem.W.OpenLaw.row PySem.Challenge.rw_farhouse_k53_whole_least_rounds_and_path).prog 39) (kwd := []) ob_eq
    (by kernel_rfl) (fun s => by kernel_rfl) run (by kernel_rfl) (by kernel_rfl) (by kernel_rfl) (by rfl) (by first | assumption | decide +kernel) (by decide +kernel) ⟨rfl, rfl, rfl, rfl, rfl, by decide +kernel⟩ ?hw ?hc
  case hw => w_witness2
  case hc =>
    refine L2.walk_ofE (l := PySem.Challenge.rw_farhouse_k53_whole_least_rounds_and_path) (n := 63) (k := 8) (x := "script") (CX := PF.CXn) rfl (by decide) (by kernel_rfl) ⟨rfl, by decide, by decide⟩ ?F (fun _ _ _ _ z => z)
    intro w mg fa h Y G hmg0
    obtain ⟨K, KX, c⟩ := Y
    have hmg : mg ("law" : PySem.Str) = some (.ref fa) := by
      have e : (HandSHeadRun.topDef (PySem.W.OpenLaw.row PySem.Challenge.rw_farhouse_k53_whole_least_rounds_and_path).prog 39).name = ("law" : PySem.Str) := by kernel_rfl
      rw [← e]
      exact hmg0
    have hga := hmg.symm.trans (glo_of KX G c (x := "law") (by decide +kernel))
    cases hga
    obtain ⟨fd, hb, hF⟩ := law_ok (P := (PySem.Challenge.rw_farhouse_k53_whole_least_rounds_and_path).prog) (w := w) KX G c
    exact ⟨K, fd, spC K C_law, KX, hb, fun H a ns hl hO hS => law_sp hO hS (ev ns hl).choose_spec, fun base _ _ => hF base⟩
end K53

theorem PySem.Challenge.cw_farhouse_k53_whole_least_rounds_and_path_holds : PySem.Challenge.rw_farhouse_k53_whole_least_rounds_and_path.Holds := by
  exact K53.claim K53.law_ev
