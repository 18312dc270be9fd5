import PyProof.Rows.All
import HandS.ForMost
import HandS.Conv
import HandS.Deep
import HandS.IsInst
import HandS.TupAny
import HandS.Wide
import HandS.Zip
import KE.GoesEnum
import KE.DataFind
import KE.DataCmp
import HandS.SortInts
import HandS.Strs
import HandS.TupLe
import HandS.Flow
import HandS.Comp
import HandS.Codes
import HandS.Gcd
import HandS.Style
import HandS.Exc
import HandS.Ends
import HandS.Defaults
import HandS.Head0
import HandS.Head1
import HandS.Head2
import HandS.HeadEnd
import HandS.HeadHook1
import HandS.HeadHook2
import PySem.Challenge.RW_farhouse_k63_whole_tables_that_fit_in_ot
set_option Elab.async false
set_option linter.all false
set_option maxRecDepth 100000
/-! PF1: data as trees, and how the abstract heap bears them -/
namespace PF
open PySem PySem.Spec PyProof.Rows L2

/-- data that never changes -/
inductive T where
  | non | bl (b : Bool) | int (i : Int) | str (x : Str) | tup (xs : List T)
/-- data: pure; a list that one place alone holds; a tuple that holds such; a list that is only read; a dict -/
inductive D where
  | p (t : T) | l (xs : List D) | u (xs : List D) | ro (xs : List T) | c (ks : List T) (vs : List D)

/-- a tuple that is known to have no dict of its own -/
def SqD (K : PySem.W.Frag) (H : Hp) (a : Addr) (xs : List V) : Prop :=
  (∃ o : Obj, H a = some (.frz o (.tup xs)) ∧ o.dict = none) ∨
    ∃ (o : Obj) (n : Nat) (its : Array Value), o.dict = none ∧ K.lookup a = some o ∧ o.data = .seq its n ∧ o.cls = .type "tuple" ∧ Vals xs its.toList ∧ its.size ≤ sizeLine
theorem SqD.t {K : PySem.W.Frag} {H : Hp} {a : Addr} {xs : List V} (h : SqD K H a xs) : SqT K H a xs := by
  rcases h with ⟨o, h, _⟩ | ⟨o, n, its, h1, h2, h3, h4, h5, h6⟩
  · exact .inl (.inr ⟨o, h⟩)
  · exact .inr ⟨o, its, n, h2, h4, h3, h6, h5⟩
theorem SqD.obj {X : Cx} {pins : List (Addr × Obj)} {σ : L2.St} {H : Hp} {s : Shared} {a : Addr} {xs : List V} (I : Inv X pins σ H s) (h : SqD X.K H a xs) : ∃ o, s.heap.get? a = some o ∧ o.dict = none := by
  rcases h with ⟨o, h, hd⟩ | ⟨o, n, its, h1, h2, h3⟩
  · exact ⟨o, (I.hok a _ h).1, hd⟩
  · exact ⟨o, I.kIn a o h2, h1⟩
mutual
inductive RT (K : PySem.W.Frag) (H : Hp) : V → T → Prop
  | non : RT K H .non .non
  | bl (b : Bool) : RT K H (.bl b) (.bl b)
  | int (i : Int) : RT K H (.int i) (.int i)
  | str (x : Str) : RT K H (.str x) (.str x)
  | tup {a : Addr} {vs : List V} {ts : List T} : SqD K H a vs → RTs K H vs ts → RT K H (.ref a) (.tup ts)
inductive RTs (K : PySem.W.Frag) (H : Hp) : List V → List T → Prop
  | nil : RTs K H [] []
  | cons {v : V} {vs : List V} {t : T} {ts : List T} : RT K H v t → RTs K H vs ts → RTs K H (v :: vs) (t :: ts)
end
/-- a list that is only read -/
def SqF (K : PySem.W.Frag) (H : Hp) (a : Addr) (xs : List V) : Prop :=
  (∃ o, H a = some (.frz o (.lst xs))) ∨
    ∃ (o : Obj) (its : Array Value) (n : Nat), K.lookup a = some o ∧ o.cls = .type "list" ∧ o.dict = none ∧ o.data = .seq its n ∧ its.size ≤ sizeLine ∧ Vals xs its.toList
theorem SqF.l {K : PySem.W.Frag} {H : Hp} {a : Addr} {xs : List V} (h : SqF K H a xs) : SqL K H a xs := by
  rcases h with h | h
  · exact .inl (.inr h)
  · exact .inr h
mutual
inductive OW (K : PySem.W.Frag) (H : Hp) : V → D → List Addr → Prop
  | p {v : V} {t : T} : RT K H v t → OW K H v (.p t) []
  | l {a : Addr} {vs : List V} {ds : List D} {G : List Addr} : H a = some (.lst vs) → OWs K H vs ds G → OW K H (.ref a) (.l ds) (a :: G)
  | u {a : Addr} {vs : List V} {ds : List D} {G : List Addr} : SqD K H a vs → OWs K H vs ds G → OW K H (.ref a) (.u ds) G
  | ro {a : Addr} {vs : List V} {ts : List T} : SqF K H a vs → RTs K H vs ts → OW K H (.ref a) (.ro ts) []
inductive OWs (K : PySem.W.Frag) (H : Hp) : List V → List D → List Addr → Prop
  | nil : OWs K H [] [] []
  | cons {v : V} {vs : List V} {d : D} {ds : List D} {G1 G2 : List Addr} : OW K H v d G1 → OWs K H vs ds G2 → OWs K H (v :: vs) (d :: ds) (G1 ++ G2)
end

/-! ### what stays -/
def Fr (H H' : Hp) (F : List Addr) : Prop := ∀ a o, H a = some o → a ∉ F → H' a = some o
theorem Fr.refl (H : Hp) (F : List Addr) : Fr H H F := fun _ _ h _ => h
theorem Fr.mono {H H' : Hp} {F F' : List Addr} (h : Fr H H' F) (s : ∀ a ∈ F, a ∈ F') : Fr H H' F' := fun a o e n => h a o e fun z => n (s a z)
theorem Fr.trans {H H1 H2 : Hp} {F : List Addr} (h : Fr H H1 F) (h2 : Fr H1 H2 F) : Fr H H2 F := fun a o e n => h2 a o (h a o e n) n
theorem Fr.new {H : Hp} {a : Addr} {o : HO} {F : List Addr} (h : H a = none) : Fr H (upd H a o) F := fun b u e _ => by
  rw [upd_ne (ne_of_none e h)]
  exact e
/-- behind a frame: old none stays?  what is new lies where nothing lay -/
def MutO : HO → Prop
  | .lst _ => True
  | .dK _ => True
  | .dT _ => True
  | _ => False
def MutF (H : Hp) (F : List Addr) : Prop := ∀ a ∈ F, ∃ o, H a = some o ∧ MutO o
theorem MutF.nil {H : Hp} : MutF H [] := fun _ h => by cases h
theorem MutF.app {H : Hp} {F G : List Addr} (h : MutF H F) (h2 : MutF H G) : MutF H (F ++ G) := fun a ha => (List.mem_append.mp ha).elim (h a) (h2 a)
theorem MutF.sub {H : Hp} {F G : List Addr} (h : MutF H F) (s : ∀ a ∈ G, a ∈ F) : MutF H G := fun a ha => h a (s a ha)
theorem MutF.frz {H : Hp} {F : List Addr} (h : MutF H F) {a : Addr} {ob : Obj} {u : HO} (e : H a = some (.frz ob u)) : a ∉ F := fun z => by
  obtain ⟨o, e2, m⟩ := h a z
  rw [e] at e2; cases e2; exact m
theorem Fr.sqD {K : PySem.W.Frag} {H H' : Hp} {F : List Addr} (f : Fr H H' F) (m : MutF H F) {a : Addr} {xs : List V} (h : SqD K H a xs) : SqD K H' a xs := by
  rcases h with ⟨o, h, hd⟩ | h
  · exact .inl ⟨o, f _ _ h (m.frz h), hd⟩
  · exact .inr h
theorem Fr.sqF {K : PySem.W.Frag} {H H' : Hp} {F : List Addr} (f : Fr H H' F) (m : MutF H F) {a : Addr} {xs : List V} (h : SqF K H a xs) : SqF K H' a xs := by
  rcases h with ⟨o, h⟩ | h
  · exact .inl ⟨o, f _ _ h (m.frz h)⟩
  · exact .inr h
mutual
theorem RT.fr {K : PySem.W.Frag} {H H' : Hp} {F : List Addr} (f : Fr H H' F) (m : MutF H F) : ∀ {v : V} {t : T}, RT K H v t → RT K H' v t
  | _, _, .non => .non
  | _, _, .bl b => .bl b
  | _, _, .int i => .int i
  | _, _, .str x => .str x
  | _, _, .tup h hs => .tup (f.sqD m h) (RTs.fr f m hs)
theorem RTs.fr {K : PySem.W.Frag} {H H' : Hp} {F : List Addr} (f : Fr H H' F) (m : MutF H F) : ∀ {vs : List V} {ts : List T}, RTs K H vs ts → RTs K H' vs ts
  | _, _, .nil => .nil
  | _, _, .cons h hs => .cons (RT.fr f m h) (RTs.fr f m hs)
end
mutual
theorem OW.fr {K : PySem.W.Frag} {H H' : Hp} {F : List Addr} (f : Fr H H' F) (m : MutF H F) : ∀ {v : V} {d : D} {G : List Addr}, OW K H v d G → (∀ a ∈ G, a ∉ F) → OW K H' v d G
  | _, _, _, .p h, _ => .p (h.fr f m)
  | _, _, _, .l h hs, n => .l (f _ _ h (n _ List.mem_cons_self)) (OWs.fr f m hs fun a ha => n a (List.mem_cons_of_mem _ ha))
  | _, _, _, .u h hs, n => .u (f.sqD m h) (OWs.fr f m hs n)
  | _, _, _, .ro h hs, _ => .ro (f.sqF m h) (RTs.fr f m hs)
theorem OWs.fr {K : PySem.W.Frag} {H H' : Hp} {F : List Addr} (f : Fr H H' F) (m : MutF H F) : ∀ {vs : List V} {ds : List D} {G : List Addr}, OWs K H vs ds G → (∀ a ∈ G, a ∉ F) → OWs K H' vs ds G
  | _, _, _, .nil, _ => .nil
  | _, _, _, .cons h hs, n => .cons (OW.fr f m h fun a ha => n a (List.mem_append_left _ ha)) (OWs.fr f m hs fun a ha => n a (List.mem_append_right _ ha))
end
mutual
theorem OW.mt {K : PySem.W.Frag} {H : Hp} : ∀ {v : V} {d : D} {G : List Addr}, OW K H v d G → MutF H G
  | _, _, _, .p _ => .nil
  | _, _, _, .l h hs => fun a ha => by
    rcases List.mem_cons.mp ha with rfl | ha
    · exact ⟨_, h, trivial⟩
    · exact OWs.mt hs a ha
  | _, _, _, .u _ hs => OWs.mt hs
  | _, _, _, .ro _ _ => .nil
theorem OWs.mt {K : PySem.W.Frag} {H : Hp} : ∀ {vs : List V} {ds : List D} {G : List Addr}, OWs K H vs ds G → MutF H G
  | _, _, _, .nil => .nil
  | _, _, _, .cons h hs => (OW.mt h).app (OWs.mt hs)
end
theorem MutF.ne {H : Hp} {F : List Addr} (h : MutF H F) {a : Addr} (e : H a = none) : a ∉ F := fun z => by
  obtain ⟨o, e2, _⟩ := h a z
  rw [e] at e2; cases e2
theorem OWs.len {K : PySem.W.Frag} {H : Hp} : ∀ {vs : List V} {ds : List D} {G : List Addr}, OWs K H vs ds G → vs.length = ds.length
  | _, _, _, .nil => rfl
  | _, _, _, .cons _ hs => congrArg (· + 1) (OWs.len hs)
theorem RTs.len {K : PySem.W.Frag} {H : Hp} : ∀ {vs : List V} {ts : List T}, RTs K H vs ts → vs.length = ts.length
  | _, _, .nil => rfl
  | _, _, .cons _ hs => congrArg (· + 1) (RTs.len hs)
theorem RTs.get {K : PySem.W.Frag} {H : Hp} : ∀ {vs : List V} {ts : List T} {i : Nat} {t : T}, RTs K H vs ts → ts[i]? = some t → ∃ v, vs[i]? = some v ∧ RT K H v t
  | _, _, _, _, .nil, e => by simp at e
  | _, _, 0, _, .cons h _, e => by simp at e; subst e; exact ⟨_, rfl, h⟩
  | _, _, i + 1, _, .cons _ hs, e => by
    obtain ⟨v, h1, h2⟩ := RTs.get (i := i) hs (by simpa using e)
    exact ⟨v, by simpa using h1, h2⟩
theorem OWs.get {K : PySem.W.Frag} {H : Hp} : ∀ {vs : List V} {ds : List D} {G : List Addr} {i : Nat} {d : D}, OWs K H vs ds G → ds[i]? = some d → ∃ v G', vs[i]? = some v ∧ OW K H v d G' ∧ ∀ a ∈ G', a ∈ G
  | _, _, _, _, _, .nil, e => by simp at e
  | _, _, _, 0, _, .cons h _, e => by simp at e; subst e; exact ⟨_, _, rfl, h, fun a ha => List.mem_append_left _ ha⟩
  | _, _, _, i + 1, _, .cons _ hs, e => by
    obtain ⟨v, G', h1, h2, h3⟩ := OWs.get (i := i) hs (by simpa using e)
    exact ⟨v, G', by simpa using h1, h2, fun a ha => List.mem_append_right _ (h3 a ha)⟩
theorem RTs.app {K : PySem.W.Frag} {H : Hp} : ∀ {vs ws : List V} {ts us : List T}, RTs K H vs ts → RTs K H ws us → RTs K H (vs ++ ws) (ts ++ us)
  | _, _, _, _, .nil, h => h
  | _, _, _, _, .cons h hs, h2 => .cons h (RTs.app hs h2)
theorem OWs.app {K : PySem.W.Frag} {H : Hp} : ∀ {vs ws : List V} {ts us : List D} {G G' : List Addr}, OWs K H vs ts G → OWs K H ws us G' → OWs K H (vs ++ ws) (ts ++ us) (G ++ G')
  | _, _, _, _, _, _, .nil, h => h
  | _, _, _, _, _, _, .cons h hs, h2 => by
    rw [List.append_assoc]
    exact .cons h (OWs.app hs h2)
/-- a list of pure items -/
def pures : List D → Option (List T)
  | [] => some []
  | .p t :: r => (pures r).map (t :: ·)
  | _ :: _ => none
theorem pures_map (ts : List T) : pures (ts.map D.p) = some ts := by
  induction ts with
  | nil => rfl
  | cons t r ih => simp [pures, ih]
theorem pures_eq : ∀ {ds : List D} {ts : List T}, pures ds = some ts → ds = ts.map D.p
  | [], ts, h => by cases h; rfl
  | .p t :: r, ts, h => by
    unfold pures at h
    cases e : pures r with
    | none => rw [e] at h; cases h
    | some us => rw [e] at h; cases h; rw [pures_eq e]; rfl
  | .l _ :: _, _, h => by cases h
  | .u _ :: _, _, h => by cases h
  | .ro _ :: _, _, h => by cases h
  | .c _ _ :: _, _, h => by cases h
theorem OWs.pure {K : PySem.W.Frag} {H : Hp} : ∀ {vs : List V} {ts : List T}, RTs K H vs ts → OWs K H vs (ts.map D.p) []
  | _, _, .nil => .nil
  | _, _, .cons h hs => .cons (G1 := []) (G2 := []) (.p h) (OWs.pure hs)
theorem OWs.rts {K : PySem.W.Frag} {H : Hp} : ∀ {vs : List V} {ts : List T} {G : List Addr}, OWs K H vs (ts.map D.p) G → RTs K H vs ts ∧ G = []
  | _, [], _, .nil => ⟨.nil, rfl⟩
  | _, t :: ts, _, .cons h hs => by
    obtain ⟨h1, h2⟩ := OWs.rts (ts := ts) hs
    cases h with
    | p h => exact ⟨.cons h h1, by simp [h2]⟩
/-- no address twice -/
def ND (F : List Addr) : Prop := ∀ a : Nat, List.count (α := Nat) a F ≤ 1
def Sb (F G : List Addr) : Prop := ∀ a : Nat, List.count (α := Nat) a F ≤ List.count (α := Nat) a G
theorem ND.nil : ND [] := fun a => by simp
theorem ND.one (b : Nat) : ND [b] := fun a => by
  rw [List.count_singleton]
  split <;> omega
theorem ND.sb {F G : List Addr} (h : ND G) (s : Sb F G) : ND F := fun a => Nat.le_trans (s a) (h a)
theorem Sb.refl (F : List Addr) : Sb F F := fun _ => Nat.le_refl _
theorem Sb.trans {F G I : List Addr} (h : Sb F G) (k : Sb G I) : Sb F I := fun a => Nat.le_trans (h a) (k a)
theorem mem_ct {a : Nat} {F : List Nat} : a ∈ F ↔ 0 < List.count (α := Nat) a F := List.count_pos_iff.symm
theorem Sb.mem {F G : List Addr} (s : Sb F G) {a : Addr} (h : a ∈ F) : a ∈ G := mem_ct.mpr (Nat.lt_of_lt_of_le (mem_ct.mp h) (s a))
theorem ct_app (a : Nat) (F G : List Nat) : List.count (α := Nat) a (F ++ G) = List.count a F + List.count a G := List.count_append
theorem ND.apart {F G : List Addr} (h : ND (F ++ G)) {a : Addr} (ha : a ∈ F) : a ∉ G := fun hb => by
  have h1 := h a
  rw [ct_app] at h1
  have h2 := mem_ct.mp ha
  have h3 := mem_ct.mp hb
  have h2' : 0 < List.count (α := Nat) a F := h2
  have h3' : 0 < List.count (α := Nat) a G := h3
  omega
end PF

set_option Elab.async false
set_option linter.all false
set_option maxRecDepth 100000
/-! PF2: the interpreter over trees -/
namespace PF
open PySem PySem.Spec PyProof.Rows L2

/-- the longest list -/
def LIM : Nat := 16777216

inductive Op where
  | add | sub | mul | fdiv | mod | pow | neg | shl | shr | band | bor | bxor
  | eq | ne | lt | le | gt | ge | is | isn | inn | nin
  | len | isi (n : String) | all | any | sum | max1 | min1 | max2 | min2 | abs | int | str | tuple | list | lrng1 | lrng2 | trng1 | trng2 | sorted | index | count | slice (lo hi : Bool) | item
  deriving DecidableEq

/-! ### equality -/
mutual
def eqT : T → T → Bool
  | .non, .non => true
  | .bl a, .bl b => a == b
  | .bl a, .int j => (if a then 1 else 0) == j
  | .int i, .bl b => i == (if b then 1 else 0)
  | .int i, .int j => i == j
  | .str x, .str y => x == y
  | .tup xs, .tup ys => eqTs xs ys
  | _, _ => false
def eqTs : List T → List T → Bool
  | [], [] => true
  | x :: xs, y :: ys => eqT x y && eqTs xs ys
  | _, _ => false
end
/-- nested at most so deep -/
def okT : Nat → T → Bool
  | 0, _ => false
  | n + 1, .tup xs => xs.all (okT n)
  | _ + 1, _ => true
/-- a list's items: any list, pure items -/
def items : D → Option (List T)
  | .l ds => pures ds
  | .ro ts => some ts
  | _ => none
/-- a list's or a tuple's -/
def seqT : D → Option (List T)
  | .p (.tup ts) => some ts
  | d => items d
def okD : D → Bool
  | .p t => okT 32 t
  | d => match items d with
    | some ts => ts.all (okT 31)
    | none => false
def eqD : D → D → Option Bool
  | .p a, .p b => if okT 32 a || okT 32 b then some (eqT a b) else none
  | .p a, d => if okT 32 a || okD d then (items d).map fun _ => false else none
  | d, .p a => if okD d || okT 32 a then (items d).map fun _ => false else none
  | d, e => if okD d || okD e then (match items d, items e with
    | some xs, some ys => some (eqTs xs ys)
    | _, _ => none) else none

def I (i : Int) : D := .p (.int i)
def B (b : Bool) : D := .p (.bl b)
def intsOf : List T → Option (List Int)
  | [] => some []
  | .int i :: r => (intsOf r).map (i :: ·)
  | _ :: _ => none
def blsOf : List T → Option (List Bool)
  | [] => some []
  | .bl i :: r => (blsOf r).map (i :: ·)
  | _ :: _ => none
def L (ts : List T) : D := .l (ts.map D.p)

def addD : List D → Option D
  | [.p (.int a), .p (.int b)] => some (I (a + b))
  | [.p (.tup a), .p (.tup b)] => if a.length + b.length ≤ LIM then some (.p (.tup (a ++ b))) else none
  | [.p (.str a), .p (.str b)] => if a.length + b.length ≤ LIM then some (.p (.str (a ++ b))) else none
  | [.l a, .l b] => match pures a, pures b with
    | some xs, some ys => if xs.length + ys.length ≤ LIM then some (L (xs ++ ys)) else none
    | _, _ => none
  | _ => none
def subD : List D → Option D
  | [.p (.int a), .p (.int b)] => some (I (a - b))
  | _ => none
def big64 (a : Int) : Bool := decide (-(2 ^ 64) < a) && decide (a < 2 ^ 64)
def mulD : List D → Option D
  | [.p (.int a), .p (.int b)] => if big64 a || big64 b then some (I (a * b)) else none
  | [.l xs, .p (.int k)] => match pures xs with
    | some ts => if decide (-(2 ^ 63) ≤ k) && decide (k < 2 ^ 63) && decide (ts.length * k.toNat ≤ LIM) then some (L (List.replicate k.toNat ts).flatten) else none
    | none => none
  | _ => none
def fdivD : List D → Option D
  | [.p (.int a), .p (.int b)] => if decide (0 < b) && decide (b.natAbs.log2 < 9000) then some (I (a / b)) else none
  | _ => none
def modD : List D → Option D
  | [.p (.int a), .p (.int b)] => if decide (0 < b) then some (I (a % b)) else none
  | _ => none
def powC (i j : Int) : Bool := decide (0 ≤ j) && decide (j ≤ 1000000) && decide (i.natAbs < 2 ^ 64)
def powD : List D → Option D
  | [.p (.int a), .p (.int b)] => if powC a b then some (I (a ^ b.toNat)) else none
  | _ => none
def shlD : List D → Option D
  | [.p (.int a), .p (.int b)] => if powC a b then some (I (a * 2 ^ b.toNat)) else none
  | _ => none
def shrD : List D → Option D
  | [.p (.int a), .p (.int b)] => if decide (0 ≤ b) then some (I (a / 2 ^ b.toNat)) else none
  | _ => none
def bitD (f : Int → Int → Int) : List D → Option D
  | [.p (.int a), .p (.int b)] => some (I (f a b))
  | _ => none
def negD : List D → Option D
  | [.p (.int a)] => some (I (-a))
  | _ => none
def cmpD (f : Int → Int → Bool) : List D → Option D
  | [.p (.int a), .p (.int b)] => some (B (f a b))
  | _ => none
def isD (neg : Bool) : List D → Option D
  | [.p (.bl a), .p (.bl b)] => some (B (if neg then !decide (a = b) else decide (a = b)))
  | [.p .non, .p .non] => some (B (!neg))
  | [_, .p .non] => some (B neg)
  | _ => none
def inD (neg : Bool) : List D → Option D
  | [.p t, d] => match seqT d with
    | some ts => if okT 31 t then some (B (if neg then !ts.any (fun z => eqT z t) else ts.any (fun z => eqT z t))) else none
    | none => none
  | _ => none
def lenD : List D → Option D
  | [.p (.str x)] => if x.length ≤ LIM then some (I x.length) else none
  | [.p (.tup ts)] => some (I ts.length)
  | [.l ds] => some (I ds.length)
  | [.u ds] => some (I ds.length)
  | [.ro ts] => some (I ts.length)
  | _ => none
def tyName : D → Option String
  | .p .non => some "NoneType"
  | .p (.bl _) => some "bool"
  | .p (.int _) => some "int"
  | .p (.str _) => some "str"
  | .p (.tup _) => some "tuple"
  | .u _ => some "tuple"
  | .l _ => some "list"
  | .ro _ => some "list"
  | .c _ _ => some "dict"
/-- isinstance(x, n) for the built-in classes of which one speaks -/
def isiB (t n : String) : Option Bool := if n = "int" ∨ n = "bool" ∨ n = "str" ∨ n = "tuple" ∨ n = "list" ∨ n = "dict" then some (t = n ∨ (t = "bool" ∧ n = "int")) else none
def isiD (n : String) : List D → Option D
  | [d] => match tyName d with
    | some t => (isiB t n).map B
    | none => none
  | _ => none
def allD (f : List Bool → Bool) : List D → Option D
  | [d] => match items d with
    | some ts => (blsOf ts).map fun bs => B (f bs)
    | none => none
  | _ => none
def sumD : List D → Option D
  | [d] => match items d with
    | some ts => (intsOf ts).map fun bs => I bs.sum
    | none => none
  | _ => none
def maxL : List Int → Option Int
  | [] => none
  | x :: r => some (r.foldl (fun a b => if b > a then b else a) x)
def minL : List Int → Option Int
  | [] => none
  | x :: r => some (r.foldl (fun a b => if b < a then b else a) x)
def mxD (f : List Int → Option Int) : List D → Option D
  | [d] => match items d with
    | some ts => match intsOf ts with
      | some is => (f is).map I
      | none => none
    | none => none
  | _ => none
def max2D : List D → Option D
  | [.p (.int a), .p (.int b)] => some (I (if b > a then b else a))
  | _ => none
def min2D : List D → Option D
  | [.p (.int a), .p (.int b)] => some (I (if b < a then b else a))
  | _ => none
def absD : List D → Option D
  | [.p (.int a)] => some (I (if a < 0 then -a else a))
  | _ => none
def intD : List D → Option D
  | [.p (.int a)] => some (I a)
  | [.p (.bl b)] => some (I (if b then 1 else 0))
  | _ => none
def strD : List D → Option D
  | [.p (.int a)] => if a.natAbs.log2 < 1920 then some (.p (.str (toString a))) else none
  | _ => none
def tupleD : List D → Option D
  | [d] => (seqT d).map fun ts => .p (.tup ts)
  | _ => none
def listD : List D → Option D
  | [d] => (seqT d).map fun ts => L ts
  | _ => none
def rngL (a b : Int) : List T := (List.range (b - a).toNat).map fun (i : Nat) => T.int (a + i)
def rngOk (a b : Int) : Bool := decide (-(2 ^ 62) ≤ a) && decide (a < 2 ^ 62) && decide (-(2 ^ 62) ≤ b) && decide (b < 2 ^ 62)
def lrng1D : List D → Option D
  | [.p (.int b)] => if rngOk 0 b && decide (b.toNat ≤ LIM) then some (L (rngL 0 b)) else none
  | _ => none
def lrng2D : List D → Option D
  | [.p (.int a), .p (.int b)] => if rngOk a b && decide ((b - a).toNat ≤ LIM) then some (L (rngL a b)) else none
  | _ => none
def trng1D : List D → Option D
  | [.p (.int b)] => if rngOk 0 b && decide (b.toNat ≤ LIM) then some (.p (.tup (rngL 0 b))) else none
  | _ => none
def trng2D : List D → Option D
  | [.p (.int a), .p (.int b)] => if rngOk a b && decide ((b - a).toNat ≤ LIM) then some (.p (.tup (rngL a b))) else none
  | _ => none
/-- sorted, by insertion -/
def insI (x : Int) : List Int → List Int
  | [] => [x]
  | y :: r => if x ≤ y then x :: y :: r else y :: insI x r
def sortI : List Int → List Int
  | [] => []
  | x :: r => insI x (sortI r)
def sortedD : List D → Option D
  | [d] => match seqT d with
    | some ts => match intsOf ts with
      | some is => some (L ((sortI is).map T.int))
      | none => none
    | none => none
  | _ => none
def idxT (t : T) : List T → Option Nat
  | [] => none
  | x :: r => if eqT x t then some 0 else (idxT t r).map (· + 1)
def indexD : List D → Option D
  | [d, .p t] => match seqT d with
    | some ts => if okT 31 t then (idxT t ts).map fun (k : Nat) => I k else none
    | none => none
  | _ => none
def countD : List D → Option D
  | [d, .p t] => match seqT d with
    | some ts => if okT 31 t then some (I (ts.countP fun z => eqT z t)) else none
    | none => none
  | _ => none
def cutT {α : Type} (xs : List α) (lo hi : Option Int) : List α := (xs.drop (HT.sIx xs.length 0 lo)).take (HT.sIx xs.length xs.length hi - HT.sIx xs.length 0 lo)
def sliceV (d : D) (lo hi : Option Int) : Option D := match d with
  | .p (.tup ts) => some (.p (.tup (cutT ts lo hi)))
  | d => (items d).map fun ts => L (cutT ts lo hi)
def sliceD : Bool → Bool → List D → Option D
  | false, false, [d] => sliceV d none none
  | true, false, [d, .p (.int a)] => sliceV d (some a) none
  | false, true, [d, .p (.int a)] => sliceV d none (some a)
  | true, true, [d, .p (.int a), .p (.int b)] => sliceV d (some a) (some b)
  | _, _, _ => none
/-- an item of a pure sequence -/
def itemD : List D → Option D
  | [.p (.tup ts), .p (.int i)] => (atI ts i).map D.p
  | [.p (.str x), .p (.int i)] => if x.length ≤ LIM then (atI x.cps.toList i).map fun c => .p (.str ⟨#[c]⟩) else none
  | [.l ds, .p (.int i)] => match atI ds i with
    | some (.p t) => some (.p t)
    | _ => none
  | [.ro ts, .p (.int i)] => (atI ts i).map D.p
  | _ => none
def eqOp (neg : Bool) : List D → Option D
  | [a, b] => (eqD a b).map fun k => B (if neg then !k else k)
  | _ => none
def opD : Op → List D → Option D
  | .add => addD | .sub => subD | .mul => mulD | .fdiv => fdivD | .mod => modD | .pow => powD | .neg => negD | .shl => shlD | .shr => shrD
  | .band => bitD Builtin.bitAnd | .bor => bitD Builtin.bitOr | .bxor => bitD Builtin.bitXor
  | .eq => eqOp false | .ne => eqOp true
  | .lt => cmpD fun i j => decide (i < j) | .le => cmpD fun i j => decide (i ≤ j) | .gt => cmpD fun i j => decide (j < i) | .ge => cmpD fun i j => decide (j ≤ i)
  | .is => isD false | .isn => isD true | .inn => inD false | .nin => inD true
  | .len => lenD | .isi n => isiD n | .all => allD (·.all id) | .any => allD (·.any id) | .sum => sumD | .max1 => mxD maxL | .min1 => mxD minL
  | .max2 => max2D | .min2 => min2D | .abs => absD | .int => intD | .str => strD | .tuple => tupleD | .list => listD | .lrng1 => lrng1D | .lrng2 => lrng2D | .trng1 => trng1D | .trng2 => trng2D
  | .sorted => sortedD | .index => indexD | .count => countD | .slice a b => sliceD a b | .item => itemD

/-! ### expressions -/
inductive Tg where
  | one (i : Nat) | many (is : List Nat)
  deriving DecidableEq
def Tg.own : Tg → List Nat
  | .one i => [i]
  | .many is => is
inductive Ex where
  | nm (i : Nat)
  | cst (t : T)
  | op (o : Op) (es : List Ex)
  | idx (a i : Ex)
  | mth (o : Op) (a e : Ex)
  | slc (a l h : Ex)
  | tup (es : List Ex)
  | lst (es : List Ex)
  | and_ (a b : Ex)
  | or_ (a b : Ex)
  | not_ (a : Ex)
  | ifx (c a b : Ex)
  | chain (o1 o2 : Op) (a b c : Ex)
  | comp (elt : Ex) (tg : Tg) (kind : Nat) (src : List Ex) (conds : List Ex)
  | call (k : Nat) (es : List Ex)
/-- a place for a value -/
inductive S where
  | no | val (d : D) | bor (d : D)
/-- what an expression comes to: a value of nobody's; the list of a name; a list that is lent -/
inductive R where
  | rv (d : D) | nm (i : Nat) | bv (d : D)
abbrev CT := List D → Option (D × List (Option D))

def look : List S → Nat → S
  | [], _ => .no
  | s :: _, 0 => s
  | _ :: r, i + 1 => look r i
def put : List S → Nat → S → List S
  | [], _, _ => []
  | _ :: r, 0, s => s :: r
  | x :: r, i + 1, s => x :: put r i s
def kill (ρ : List S) : List Nat → List S
  | [] => ρ
  | i :: r => put (kill ρ r) i .no
/-- the value that a result speaks of -/
def valR (ρ : List S) : R → Option D
  | .rv d => some d
  | .bv d => some d
  | .nm i => match look ρ i with
    | .val d => some d
    | _ => none
def vals (ρ : List S) : List R → Option (List D)
  | [] => some []
  | r :: rs => match valR ρ r, vals ρ rs with
    | some d, some ds => some (d :: ds)
    | _, _ => none
/-- taken over -/
def own (q : Bool) (ρ : List S) : R → Option (D × List S)
  | .rv d => some (d, ρ)
  | .nm i => if q then none else match look ρ i with
    | .val d => some (d, put ρ i .no)
    | _ => none
  | .bv _ => none
/-- values taken over, from the left -/
def ownL (q : Bool) : List S → List R → Option (List D × List S)
  | ρ, [] => some ([], ρ)
  | ρ, r :: rs => match own q ρ r with
    | some (d, ρ1) => match ownL q ρ1 rs with
      | some (ds, ρ2) => some (d :: ds, ρ2)
      | none => none
    | none => none
def truD : D → Option Bool
  | .p .non => some false
  | .p (.bl b) => some b
  | .p (.int i) => some (i != 0)
  | .p (.str x) => if x.length ≤ LIM then some ((x.length : Int) != 0) else none
  | .p (.tup ts) => some (!ts.isEmpty)
  | .l ds => some (!ds.isEmpty)
  | .u ds => some (!ds.isEmpty)
  | .ro ts => some (!ts.isEmpty)
  | .c _ _ => none
def truR (ρ : List S) (r : R) : Option Bool := (valR ρ r).bind truD
/-- both lists, or both tuples -/
def sameK : D → D → Bool
  | .p (.tup _), .p (.tup _) => true
  | .l _, .l _ => true
  | .ro _, .ro _ => true
  | _, _ => false
def lent : R → Bool
  | .bv _ => true
  | _ => false
/-- a tuple of values: pure, or not -/
def mkTup (ds : List D) : D := match pures ds with
  | some ts => .p (.tup ts)
  | none => .u ds
def unpk : D → Option (List D)
  | .p (.tup ts) => some (ts.map D.p)
  | .u ds => some ds
  | _ => none
def putAll : List S → List Nat → List S → Option (List S)
  | ρ, [], [] => some ρ
  | ρ, i :: is, d :: ds => putAll (put ρ i d) is ds
  | _, _, _ => none
def bind (b : Bool) (tg : Tg) (d : D) (ρ : List S) : Option (List S) :=
  match tg with
  | .one i => some (put ρ i (if b then .bor d else .val d))
  | .many is => match unpk d with
    | some ds => putAll ρ is (ds.map fun d => if b then .bor d else .val d)
    | none => none
/-- a pure sequence that is walked: fixed, or the list of a name, which may turn -/
inductive Sq where
  | fix (ts : List T) | live (r n : Nat)
/-- a name's list at turn i: as long as at first -/
def liveAt (ρ : List S) (r n i : Nat) : Option D :=
  match look ρ r with
  | .val (.l ds) => if ds.length = n then ds[i]? else none
  | _ => none
def Sq.len : Sq → Nat
  | .fix ts => ts.length
  | .live _ n => n
def Sq.at (ρ : List S) (i : Nat) : Sq → Option T
  | .fix ts => ts[i]?
  | .live r n => match liveAt ρ r n i with
    | some (.p t) => some t
    | _ => none
def Sq.ok (ρ : List S) : Sq → Bool
  | .fix _ => true
  | .live r n => match look ρ r with
    | .val (.l ds) => decide (ds.length = n)
    | _ => false
def sqOf (ρ : List S) : R → Option Sq
  | .rv (.p (.tup ts)) => some (.fix ts)
  | .rv (.ro ts) => some (.fix ts)
  | .rv (.l ds) => (pures ds).map .fix
  | .nm i => match look ρ i with
    | .val (.ro ts) => some (.fix ts)
    | .val (.l ds) => (pures ds).map fun _ => .live i ds.length
    | _ => none
  | _ => none
/-- how a walk's items come: the thing itself, numbered, in pairs; a range; lent things -/
inductive Wk where
  | one (a : Sq) | enum (a : Sq) | zip (a b : Sq) | rng (lo : Int) (n : Nat) | lent (ds : List D)
def Wk.len : Wk → Nat
  | .one a => a.len
  | .enum a => a.len
  | .zip a b => min a.len b.len
  | .rng _ n => n
  | .lent ds => ds.length
def Wk.ok (ρ : List S) : Wk → Bool
  | .one a => a.ok ρ
  | .enum a => a.ok ρ
  | .zip a b => a.ok ρ && b.ok ρ
  | .rng _ _ => true
  | .lent _ => true
def Wk.at (ρ : List S) (i : Nat) : Wk → Option D
  | .one a => (a.at ρ i).map .p
  | .enum a => (a.at ρ i).map fun t => .p (.tup [.int i, t])
  | .zip a b => match a.at ρ i, b.at ρ i with
    | some t, some u => if a.ok ρ && b.ok ρ then some (.p (.tup [t, u])) else none
    | _, _ => none
  | .rng lo n => if i < n then some (I (lo + i)) else none
  | .lent ds => ds[i]?
def Wk.isLent : Wk → Bool
  | .lent _ => true
  | _ => false
/-- the names whose lists are walked -/
def Sq.lives : Sq → List Nat
  | .fix _ => []
  | .live r _ => [r]
def Wk.lives : Wk → List Nat
  | .one a => a.lives
  | .enum a => a.lives
  | .zip a b => a.lives ++ b.lives
  | _ => []
def rngS (a b : Int) : Option Wk := if rngOk a b then some (.rng a (b - a).toNat) else none
/-- a list of things that are not pure -/
def srcL (ρ : List S) : R → Option Wk
  | .rv (.l ds) => some (.lent ds)
  | .nm i => match look ρ i with
    | .val (.l ds) => some (.lent ds)
    | _ => none
  | .bv (.l ds) => some (.lent ds)
  | _ => none
/-- kinds: 0 the thing itself; 1 range(b); 2 range(a, b); 3 enumerate(x); 4 zip(x, y) -/
def srcK (ρ : List S) : Nat → List R → Option Wk
  | 0, [r] => match sqOf ρ r with
    | some a => some (.one a)
    | none => srcL ρ r
  | 1, [r] => match valR ρ r with
    | some (.p (.int b)) => rngS 0 b
    | _ => none
  | 2, [r, s] => match valR ρ r, valR ρ s with
    | some (.p (.int a)), some (.p (.int b)) => rngS a b
    | _, _ => none
  | 3, [r] => (sqOf ρ r).map fun a => .enum a
  | 4, [r, s] => match sqOf ρ r, sqOf ρ s with
    | some a, some b => some (.zip a b)
    | _, _ => none
  | _, _ => none
def walkN {α : Type} (st : α → List S) (w : Wk) (f : D → α → Option α) : Nat → α → Option α
  | 0, a => if w.ok (st a) then some a else none
  | k + 1, a => match w.at (st a) (w.len - (k + 1)) with
    | some d => match f d a with
      | some b => walkN st w f k b
      | none => none
    | none => none
/-- a call: what comes back to the names -/
def back : List S → List R → List (Option D) → Option (List S)
  | ρ, [], _ => some ρ
  | ρ, .nm i :: rs, o :: os => back (put ρ i (match o with | some d => .val d | none => .no)) rs os
  | ρ, .rv _ :: rs, _ :: os => back ρ rs os
  | ρ, .bv _ :: rs, _ :: os => none
  | _, _ :: _, [] => none
def nms : List R → List Nat
  | [] => []
  | .nm i :: r => i :: nms r
  | _ :: r => nms r
def nodupB : List Nat → Bool
  | [] => true
  | x :: r => !r.contains x && nodupB r
def callD (q : Bool) (c : CT) (rs : List R) (ρ : List S) : Option (R × List S) :=
  match vals ρ rs with
  | none => none
  | some ds => if nodupB (nms rs) && (!q || (nms rs).isEmpty) then
      match c ds with
      | some (d, os) => (back ρ rs os).map fun ρ' => (.rv d, ρ')
      | none => none
    else none

mutual
def ev (Γ : List CT) (q : Bool) : Ex → List S → Option (R × List S)
  | .nm i, ρ => match look ρ i with
    | .val (.p t) => some (.rv (.p t), ρ)
    | .val d => some (.nm i, ρ)
    | .bor (.p t) => some (.rv (.p t), ρ)
    | .bor d => if q then some (.bv d, ρ) else none
    | .no => none
  | .cst t, ρ => some (.rv (.p t), ρ)
  | .op o es, ρ => match evL Γ q es ρ with
    | some (rs, ρ1) => match vals ρ1 rs with
      | some ds => match opD o ds with
        | some d => some (.rv d, ρ1)
        | none => none
      | none => none
    | none => none
  | .idx a i, ρ => match ev Γ q a ρ with
    | some (r, ρ1) => match ev Γ (q || lent r) i ρ1 with
      | some (ri, ρ2) => match valR ρ2 r, valR ρ2 ri with
        | some (.l ds), some (.p (.int k)) => match atI ds k with
          | some (.p t) => some (.rv (.p t), ρ2)
          | some d => match r with
            | .rv _ => none
            | _ => some (.bv d, ρ2)
          | none => none
        | some d, some e => match itemD [d, e] with
          | some x => some (.rv x, ρ2)
          | none => none
        | _, _ => none
      | none => none
    | none => none
  | .mth o a e, ρ => match ev Γ q a ρ with
    | some (r, ρ1) => match ev Γ (q || lent r) e ρ1 with
      | some (r2, ρ2) => match valR ρ1 r, valR ρ2 r, valR ρ2 r2 with
        | some d0, some d, some d2 => if sameK d0 d then (opD o [d, d2]).map fun z => (.rv z, ρ2) else none
        | _, _, _ => none
      | none => none
    | none => none
  | .slc a l h, ρ => match ev Γ q a ρ with
    | some (r, ρ1) => match ev Γ (q || lent r) l ρ1 with
      | some (r2, ρ2) => match valR ρ2 r2 with
        | some (.p (.int i)) => match ev Γ (q || lent r) h ρ2 with
          | some (r3, ρ3) => match valR ρ3 r, valR ρ3 r3 with
            | some d, some (.p (.int j)) => (sliceV d (some i) (some j)).map fun z => (.rv z, ρ3)
            | _, _ => none
          | none => none
        | _ => none
      | none => none
    | none => none
  | .tup es, ρ => match evL Γ q es ρ with
    | some (rs, ρ1) => match ownL q ρ1 rs with
      | some (ds, ρ2) => if ds.length ≤ LIM then some (.rv (mkTup ds), ρ2) else none
      | none => none
    | none => none
  | .lst es, ρ => match evL Γ q es ρ with
    | some (rs, ρ1) => match ownL q ρ1 rs with
      | some (ds, ρ2) => if ds.length ≤ LIM then some (.rv (.l ds), ρ2) else none
      | none => none
    | none => none
  | .and_ a b, ρ => match ev Γ q a ρ with
    | some (r, ρ1) => match truR ρ1 r with
      | some true => ev Γ q b ρ1
      | some false => some (r, ρ1)
      | none => none
    | none => none
  | .or_ a b, ρ => match ev Γ q a ρ with
    | some (r, ρ1) => match truR ρ1 r with
      | some true => some (r, ρ1)
      | some false => ev Γ q b ρ1
      | none => none
    | none => none
  | .not_ a, ρ => match ev Γ q a ρ with
    | some (r, ρ1) => match truR ρ1 r with
      | some k => some (.rv (B (!k)), ρ1)
      | none => none
    | none => none
  | .ifx c a b, ρ => match ev Γ q c ρ with
    | some (r, ρ1) => match truR ρ1 r with
      | some true => ev Γ q a ρ1
      | some false => ev Γ q b ρ1
      | none => none
    | none => none
  | .chain o1 o2 a b c, ρ => match ev Γ q a ρ with
    | some (ra, ρ1) => match valR ρ1 ra with
      | some (.p x) => match ev Γ q b ρ1 with
        | some (rb, ρ2) => match valR ρ2 rb with
          | some (.p y) => match opD o1 [.p x, .p y] with
            | some (.p (.bl true)) => match ev Γ q c ρ2 with
              | some (rc, ρ3) => match valR ρ3 rc with
                | some (.p z) => match opD o2 [.p y, .p z] with
                  | some d => some (.rv d, ρ3)
                  | none => none
                | _ => none
              | none => none
            | some (.p (.bl false)) => some (.rv (B false), ρ2)
            | _ => none
          | _ => none
        | none => none
      | _ => none
    | none => none
  | .comp elt tg kind src conds, ρ => match evL Γ q src ρ with
    | some (rs, ρ1) => match srcK ρ1 kind rs with
      | some w => if w.len ≤ LIM then
          match walkN Prod.snd w (fun d a => match bind w.isLent tg d (kill a.2 tg.own) with
            | some ρ2 => match evT Γ (q || w.isLent) conds ρ2 with
              | some (true, ρ3) => match ev Γ (q || w.isLent) elt ρ3 with
                | some (r, ρ4) => match own (q || w.isLent) ρ4 r with
                  | some (x, ρ5) => some (a.1 ++ [x], kill ρ5 tg.own)
                  | none => none
                | none => none
              | some (false, ρ3) => some (a.1, kill ρ3 tg.own)
              | none => none
            | none => none) w.len ([], kill ρ1 tg.own) with
          | some (ds, ρ2) => some (.rv (.l ds), ρ2)
          | none => none
        else none
      | none => none
    | none => none
  | .call k es, ρ => match evL Γ q es ρ with
    | some (rs, ρ1) => match Γ[k]? with
      | some c => callD q c rs ρ1
      | none => none
    | none => none
/-- arguments, from the left -/
def evL (Γ : List CT) (q : Bool) : List Ex → List S → Option (List R × List S)
  | [], ρ => some ([], ρ)
  | e :: es, ρ => match ev Γ q e ρ with
    | some (r, ρ1) => match evL Γ (q || lent r) es ρ1 with
      | some (rs, ρ2) => some (r :: rs, ρ2)
      | none => none
    | none => none
/-- tests: at most one -/
def evT (Γ : List CT) (q : Bool) : List Ex → List S → Option (Bool × List S)
  | [], ρ => some (true, ρ)
  | [e], ρ => match ev Γ q e ρ with
    | some (r, ρ1) => match truR ρ1 r with
      | some k => some (k, ρ1)
      | none => none
    | none => none
  | _, _ => none
end
end PF

set_option Elab.async false
set_option linter.all false
set_option maxRecDepth 100000
/-! PF3: the interpreter: statements, defs -/
namespace PF
open PySem PySem.Spec PyProof.Rows L2

inductive Tgt where
  | nm (i : Nat) | s1 (r : Nat) (i : Ex) | s2 (r : Nat) (i j : Ex)
inductive St where
  | asg (i : Nat) (e : Ex)
  | asgT (is : List Nat) (e : Ex)
  | asg1 (t : Tgt) (e : Ex)
  | asgM (ts : List Tgt) (e : Ex)
  | aug (i : Nat) (o : Op) (e : Ex)
  | app (r : Nat) (e : Ex)
  | ext (r : Nat) (e : Ex)
  | exp (e : Ex)
  | ite (c : Ex) (a b : List St)
  | for_ (tg : Tg) (kind : Nat) (src : List Ex) (body : List St) (dead : List Nat)
  | whl (c : Ex) (body : List St) (dead : List Nat)
  | ret (e : Ex)
  | retN | brk | cnt | pass | fail
inductive Out where
  | nx (ρ : List S) | rt (d : D) (ρ : List S) | bk (ρ : List S) | ct (ρ : List S)
/-- the most turns of a while -/
def FUEL : Nat := 1000000

def killO (ks : List Nat) : Out → Out
  | .nx ρ => .nx (kill ρ ks)
  | .ct ρ => .nx (kill ρ ks)
  | .bk ρ => .bk (kill ρ ks)
  | .rt d ρ => .rt d ρ
def forN (w : Wk) (f : D → List S → Option Out) : Nat → List S → Option Out
  | 0, ρ => if w.ok ρ then some (.nx ρ) else none
  | k + 1, ρ => match w.at ρ (w.len - (k + 1)) with
    | some d => match f d ρ with
      | some (.nx ρ1) => forN w f k ρ1
      | some (.bk ρ1) => some (.nx ρ1)
      | some (.rt v ρ1) => some (.rt v ρ1)
      | _ => none
    | none => none
def whW (c : List S → Option (Bool × List S)) (f : List S → Option Out) : Nat → List S → Option Out
  | 0, _ => none
  | n + 1, ρ => match c ρ with
    | some (true, ρ1) => match f ρ1 with
      | some (.nx ρ2) => whW c f n ρ2
      | some (.bk ρ2) => some (.nx ρ2)
      | some (.rt v ρ2) => some (.rt v ρ2)
      | _ => none
    | some (false, ρ1) => some (.nx ρ1)
    | none => none
/-- the names that statements store -/
def Tgt.st : Tgt → List Nat
  | .nm i => [i]
  | _ => []
mutual
def stO : St → List Nat
  | .asg i _ => [i]
  | .asgT is _ => is
  | .asg1 t _ => t.st
  | .asgM ts _ => ts.flatMap Tgt.st
  | .aug i _ _ => [i]
  | .ite _ a b => stsO a ++ stsO b
  | .for_ tg _ _ body _ => tg.own ++ stsO body
  | .whl _ body _ => stsO body
  | _ => []
def stsO : List St → List Nat
  | [] => []
  | s :: r => stO s ++ stsO r
end
/-- a value put where a target says -/
def store (Γ : List CT) (d : D) (ρ : List S) : Tgt → Option (List S)
  | .nm i => some (put ρ i (.val d))
  | .s1 r i => match ev Γ true i ρ with
    | some (ri, _) => match valR ρ ri, look ρ r with
      | some (.p (.int k)), .val (.l ds) => match ixN ds.length k with
        | some j => some (put ρ r (.val (.l (ds.set j d))))
        | none => none
      | _, _ => none
    | none => none
  | .s2 r i j => match ev Γ true i ρ with
    | some (ri, _) => match valR ρ ri with
      | some (.p (.int k)) => match look ρ r with
        | .val (.l ds) => match ixN ds.length k with
          | some m => match ds[m]? with
            | some (.l es) => match ev Γ true j ρ with
              | some (rj, _) => match valR ρ rj with
                | some (.p (.int k2)) => match ixN es.length k2 with
                  | some m2 => some (put ρ r (.val (.l (ds.set m (.l (es.set m2 d))))))
                  | none => none
                | _ => none
              | none => none
            | _ => none
          | none => none
        | _ => none
      | _ => none
    | none => none
def stores (Γ : List CT) : List S → List Tgt → List D → Option (List S)
  | ρ, [], [] => some ρ
  | ρ, t :: ts, d :: ds => match store Γ d ρ t with
    | some ρ1 => stores Γ ρ1 ts ds
    | none => none
  | _, _, _ => none
/-- an expression's value, taken over -/
def evOwn (Γ : List CT) (e : Ex) (ρ : List S) : Option (D × List S) :=
  match ev Γ false e ρ with
  | some (r, ρ1) => own false ρ1 r
  | none => none
def evTest (Γ : List CT) (e : Ex) (ρ : List S) : Option (Bool × List S) :=
  match ev Γ false e ρ with
  | some (r, ρ1) => match truR ρ1 r with
    | some k => some (k, ρ1)
    | none => none
  | none => none

mutual
def run (Γ : List CT) : St → List S → Option Out
  | .asg i e, ρ => match evOwn Γ e ρ with
    | some (d, ρ1) => some (.nx (put ρ1 i (.val d)))
    | none => none
  | .asgT is e, ρ => match evOwn Γ e ρ with
    | some (d, ρ1) => match unpk d with
      | some ds => (putAll ρ1 is (ds.map .val)).map .nx
      | none => none
    | none => none
  | .asg1 t e, ρ => match evOwn Γ e ρ with
    | some (d, ρ1) => (store Γ d ρ1 t).map .nx
    | none => none
  | .asgM ts e, ρ => match evOwn Γ e ρ with
    | some (d, ρ1) => match unpk d with
      | some ds => (stores Γ ρ1 ts ds).map .nx
      | none => none
    | none => none
  | .aug i o e, ρ => match look ρ i with
    | .val (.p (.int x)) => match ev Γ false e ρ with
      | some (r, ρ1) => match valR ρ1 r with
        | some (.p (.int y)) => match opD o [.p (.int x), .p (.int y)] with
          | some (.p z) => some (.nx (put ρ1 i (.val (.p z))))
          | _ => none
        | _ => none
      | none => none
    | _ => none
  | .app r e, ρ => match look ρ r with
    | .val (.l _) => match evOwn Γ e ρ with
      | some (d, ρ1) => match look ρ1 r with
        | .val (.l ds) => if ds.length < LIM then some (.nx (put ρ1 r (.val (.l (ds ++ [d]))))) else none
        | _ => none
      | none => none
    | _ => none
  | .ext r e, ρ => match look ρ r with
    | .val (.l _) => match evOwn Γ e ρ with
      | some (.l es, ρ1) => match look ρ1 r with
        | .val (.l ds) => if ds.length + es.length ≤ LIM then some (.nx (put ρ1 r (.val (.l (ds ++ es))))) else none
        | _ => none
      | _ => none
    | _ => none
  | .exp e, ρ => match ev Γ false e ρ with
    | some (_, ρ1) => some (.nx ρ1)
    | none => none
  | .ite c a b, ρ => match evTest Γ c ρ with
    | some (true, ρ1) => runs Γ a ρ1
    | some (false, ρ1) => runs Γ b ρ1
    | none => none
  | .for_ tg kind src body dead, ρ => match evL Γ false src ρ with
    | some (rs, ρ1) => match srcK ρ1 kind rs with
      | some w => if !w.isLent && w.lives.all (fun r => !(tg.own ++ stsO body).contains r) then
          forN w (fun d ρ => match bind false tg d ρ with
            | some ρ2 => (runs Γ body ρ2).map (killO dead)
            | none => none) w.len (kill ρ1 dead)
        else none
      | none => none
    | none => none
  | .whl c body dead, ρ => whW (evTest Γ c) (fun ρ => (runs Γ body ρ).map (killO dead)) FUEL (kill ρ dead)
  | .ret e, ρ => match evOwn Γ e ρ with
    | some (d, ρ1) => some (.rt d ρ1)
    | none => none
  | .retN, ρ => some (.rt (.p .non) ρ)
  | .brk, ρ => some (.bk ρ)
  | .cnt, ρ => some (.ct ρ)
  | .pass, ρ => some (.nx ρ)
  | .fail, _ => none
def runs (Γ : List CT) : List St → List S → Option Out
  | [], ρ => some (.nx ρ)
  | s :: r, ρ => match run Γ s ρ with
    | some (.nx ρ1) => runs Γ r ρ1
    | o => o
end
def isP : D → Bool
  | .p _ => true
  | _ => false
/-- what is left in the arguments' places, where no name was stored anew -/
def left (st : List Nat) : Nat → List D → List S → List (Option D)
  | _, [], _ => []
  | i, d :: ds, ρ => (if isP d || st.contains i then none else match look ρ i with | .val e => some e | _ => none) :: left st (i + 1) ds ρ
def startS (n : Nat) (ds : List D) : List S := ds.map S.val ++ List.replicate (n - ds.length) S.no
/-- a def of np parameters and n names in all -/
def mk (Γ : List CT) (n np : Nat) (body : List St) : CT := fun ds =>
  if ds.length = np then
    match runs Γ body (startS n ds) with
    | some (.rt d ρ) => some (d, left (stsO body) 0 ds ρ)
    | some (.nx ρ) => some (.p .non, left (stsO body) 0 ds ρ)
    | _ => none
  else none
end PF

set_option Elab.async false
set_option linter.all false
set_option maxRecDepth 100000
/-! PF4: what is walked: enumerate and zip of lists and tuples, in any mix -/
namespace PF
open PySem PySem.Spec PyProof.Rows L2

/-- a list (true) or a tuple (false) -/
def SqK (k : Bool) (K : PySem.W.Frag) (H : Hp) (a : Addr) (xs : List V) : Prop := if k = true then SqL K H a xs else SqT K H a xs
def iterK (k : Bool) (h : Heap) (it a : Addr) (i : Nat) : Prop := if k = true then h.IsListIter it a i else h.IsTupleIter it a i
theorem iterK.at {k : Bool} {h h' : Heap} {it a : Addr} {i : Nat} (x : iterK k h it a i) (e : ∀ o, h.get? it = some o → h'.get? it = some o) : iterK k h' it a i := by
  cases k with
  | true => exact PySem.Heap.IsListIter.at x e
  | false => exact PySem.Heap.IsTupleIter.at x e
theorem iterK.there {k : Bool} {h : Heap} {it a : Addr} {i : Nat} (x : iterK k h it a i) : ∃ o, h.get? it = some o ∧ ∀ v, o.data ≠ .cell v := by
  cases k with
  | true => obtain ⟨o, e, c, d⟩ := x; exact ⟨o, e, fun v z => by rw [d] at z; cases z⟩
  | false => obtain ⟨o, e, c, d⟩ := x; exact ⟨o, e, fun v z => by rw [d] at z; cases z⟩
def PlK (k : Bool) (h : Heap) (a : Addr) (its : Array Value) : Prop := if k = true then h.IsList a its else h.IsTuple a its
section
variable {X : Cx} {pins : List (Addr × Obj)} {σ : L2.St} {H : Hp} {s : Shared} {a : Addr} {xs ys : List V} {k : Bool}
theorem SqK.pl (I : Inv X pins σ H s) (h : SqK k X.K H a xs) : ∃ its : List Value, Vals xs its ∧ PlK k s.heap a its.toArray ∧ xs.length ≤ sizeLine := by
  cases k with
  | true => obtain ⟨its, r, p, z⟩ := I.list h; exact ⟨its, r, p.isList, z⟩
  | false => obtain ⟨its, r, p, z⟩ := I.tuple h; exact ⟨its, r, p, z⟩
theorem SqK.inj (I : Inv X pins σ H s) (h : SqK k X.K H a xs) (h2 : SqK k X.K H a ys) : xs = ys := by
  cases k with
  | true => exact I.list_inj h h2
  | false => exact I.tuple_inj h h2
theorem PlK.lt {h : Heap} {its : Array Value} (p : PlK k h a its) : a < h.objs.size := by
  cases k with
  | true => obtain ⟨o, e, _⟩ := p; exact Heap.lt_size e
  | false => obtain ⟨o, e, _⟩ := p; exact Heap.lt_size e
end
theorem drawK {k : Bool} {prog : Program} {w : World} {A : Around} (hh : A.handled = none) (it a : Addr) (hne : a ≠ it) (its : Array Value) :
    Draws prog w A it [it, a] its.size (fun i v => its[i]? = some v) (fun i h => iterK k h it a i ∧ PlK k h a its) := by
  cases k with
  | true => exact Draws.list hh it a hne its
  | false => exact Draws.tuple hh it a hne its
def itObj (k : Bool) (a : Addr) : Obj := if k = true then { cls := .type "list_iterator", data := .fields #[.ref a, .int 0 0] } else { cls := .type "tuple_iterator", data := .fields #[.ref a, .int 0 0] }
theorem beginsK (k : Bool) (a : Addr) (its : Array Value) : Begins (.ref a) (itObj k a) fun h => PlK k h a its := by
  cases k with
  | true => exact begins_list a its
  | false => exact begins_tuple a its
theorem iterK.start {k : Bool} {h : Heap} {it a : Addr} (e : h.get? it = some (itObj k a)) : iterK k h it a 0 := by
  cases k with
  | true => exact ⟨_, e, rfl, rfl⟩
  | false => exact ⟨_, e, rfl, rfl⟩

/-- enumerate: the sequence at a as it stands at each turn, each item in a new pair -/
def IteG (k : Bool) (K : PySem.W.Frag) (a : Addr) : It :=
  ⟨fun i H => ∃ (xs : List V) (x : V), SqK k K H a xs ∧ xs[i]? = some x, fun i H v H' => ∃ T x o, v = .ref T ∧ H T = none ∧ Obj.dict o = none ∧ H' = upd H T (.frz o (.tup [.int (i : Nat), x])) ∧ ∀ xs, SqK k K H a xs → xs[i]? = some x, fun i H => ∃ xs : List V, SqK k K H a xs ∧ xs.length = i⟩
theorem turn_enumG {P : Program} {w : World} {K : PySem.W.Frag} {elts : List Expr} {kk : Nat} {tpos : Pos} (k : Bool) (a e it : Addr) (hai : a ≠ it) (hea : e ≠ a) :
    Turn P w K (.Tuple elts kk tpos) (IteG k K a) [e, it] e (fun i h => (∃ old, IsEnum h e it ((i : Nat) : Int) old) ∧ iterK k h it a i ∧ e ≠ it) where
  mem := by simp
  obj := fun i h st b hb => by
    obtain ⟨⟨old, he⟩, hi, _⟩ := st
    have e' : b = e ∨ b = it := by simpa using hb
    rcases e' with z | z
    · rw [z]; exact ⟨_, he, fun v q => nomatch q⟩
    · rw [z]; exact hi.there
  keep := fun i h h' st k => let ⟨⟨old, he⟩, hi, hne⟩ := st; ⟨⟨old, k e (by simp) _ he⟩, hi.at fun o q => k it (by simp) o q, hne⟩
  item := by
    intro X hP hw hK hc i pins s σ H E I hf st hg
    subst hP hw hK
    obtain ⟨⟨old, he⟩, hit, hne⟩ := st
    obtain ⟨xs, x, hq, hx⟩ := hg
    obtain ⟨its, rv, p, hz⟩ := hq.pl I
    obtain ⟨u, hu, ru⟩ := rv.get hx
    have hel : e < s.heap.objs.size := Heap.lt_size he
    have hil : it < s.heap.objs.size := by obtain ⟨_, q, _⟩ := hit.there; exact Heap.lt_size q
    have hlt : i < its.length := by
      have := (List.getElem?_eq_some_iff.mp hu).1
      exact this
    refine wpAny_pyNext_enum_itemC (drawK (k := k) (A := X.A.in1) (I.ok.hd hc) it a hai its.toArray) he ⟨hit, p⟩ (by simpa using hlt) hne (by simp [hne, hea]) fun x' h' tk hP ho hs' hT hsz hk => ?_
    have ex : x' = u := by
      have hP : its.toArray[i]? = some x' := hP
      simp only [List.getElem?_toArray] at hP
      rw [hu] at hP; cases hP; rfl
    subst ex
    refine ⟨_, rfl, wpAny_letOwnedTupleGo_enum (s := { s with heap := h', toks := tk + 1 }) ho fun h'' he' sb => ?_⟩
    have hT2 : h''.get? s.heap.objs.size = some { cls := .type "tuple", data := .seq #[.int i tk, x'] } := (sb.2 _ (Nat.ne_of_gt hel)).trans hT
    have new : ObjOk X.prog X.w (upd H s.heap.objs.size (.frz { cls := .type "tuple", data := .seq #[.int i tk, x'] } (.tup [.int (i : Nat), x]))) h'' s.heap.objs.size (.frz { cls := .type "tuple", data := .seq #[.int i tk, x'] } (.tup [.int (i : Nat), x])) :=
      ⟨hT2, by show 2 ≤ sizeLine; decide, [.int i tk, x'], .cons ⟨_, rfl⟩ (.cons ru .nil), ⟨_, hT2, rfl, _, rfl⟩⟩
    have I1 : Inv X pins σ (upd H s.heap.objs.size (.frz { cls := .type "tuple", data := .seq #[.int i tk, x'] } (.tup [.int (i : Nat), x]))) { s with heap := h'', toks := tk + 1 } :=
      I.turnedNew (ch := [e, it]) (fun b ob hb q => (sb.2 b (fun z => hb (by simp [z]))).trans (hk b ob (fun z => hb (by simp [z])) (fun z => hb (by simp [z])) q)) hf (Nat.le_refl _) new
    refine ⟨.ref s.heap.objs.size, _, I1, rfl, ⟨_, x, _, rfl, I.hok.fresh (Nat.le_refl _), rfl, rfl, fun ys hy => by rw [SqK.inj I hy hq]; exact hx⟩, ⟨⟨x', ?_⟩, hs'.1.at fun o q => (sb.2 it (Ne.symm hne)).trans q, hne⟩, fun b hb => ?_⟩
    · have e1 : ((i + 1 : Nat) : Int) = (i : Int) + 1 := by omega
      rw [e1]; exact he'
    · have hb' : b < s.heap.objs.size := by
        have e' : b = e ∨ b = it := by simpa using hb
        rcases e' with z | z
        · rw [z]; exact hel
        · rw [z]; exact hil
      rw [upd_ne (Nat.ne_of_lt hb')]
      exact (hf b hb).1
  done := by
    intro X hP hw hK hc i pins s σ H E I hf st hg
    subst hP hw hK
    obtain ⟨⟨old, he⟩, hit, hne⟩ := st
    obtain ⟨xs, hq, hx⟩ := hg
    obtain ⟨its, rv, p, hz⟩ := hq.pl I
    obtain ⟨f0, f1, f2, f3, f4, f5⟩ := hf it (by simp)
    have hl : i = its.toArray.size := by rw [List.size_toArray, ← rv.length, hx]
    have st' : iterK k s.heap it a its.toArray.size ∧ PlK k s.heap a its.toArray := ⟨hl ▸ hit, p⟩
    exact wpAny_pyNext_enum_endD (drawK (k := k) (A := X.A.in1) (I.ok.hd hc) it a hai its.toArray) he st' fun h' eb => ⟨rfl, I.turned (t' := s.toks) (fun b o hb q => eb b o hb q) f0 f1 f3 f4 f5⟩
  self := fun A i s Q E st h => let ⟨⟨_, he⟩, _⟩ := st; wpAny_pyIter_enum he h
def iEnumG (K : PySem.W.Frag) (ta : TA) : TI := fun σ H R => ta σ H fun vs H1 => ∃ k a xs, vs = [.ref a] ∧ SqK k K H1 a xs ∧ R (IteG k K a) H1
theorem boot_enum' : bootBuiltins "enumerate" = some (.type "enumerate") := boot_enumerate
set_option maxHeartbeats 1000000 in
theorem meets_enum1 {v : Value} {o : Obj} {H : Heap → Prop} (B : Begins v o H) :
    Meets (Builtin.«enumerate.__new__» ⟨[.type "enumerate", v], []⟩) (fun _ R s => H s.heap ∧
      R (.ok (.ret (.ref (s.heap.push o).objs.size))) { s with heap := (s.heap.push o).push { cls := .type "enumerate", data := .fields #[.none, .bool false, .ref s.heap.objs.size, rawInt 0, .none, .none] } }) :=
  .of_wp fun prog w A R s h => by
    obtain ⟨hp, g, d, tk, os⟩ := s; obtain ⟨h1, h⟩ := h
    have hsub := sub_enumerate
    have q1 : ∀ {A' : Around} {E : Value → Shared → Prop} {Q : Value → Shared → Prop}, Q (.ref hp.objs.size) ⟨hp.push o, g, d, tk, os⟩ → wpAny (model prog w) A' (pyIter v) Q E ⟨hp, g, d, tk, os⟩ :=
      fun q => B.iter prog w _ _ ⟨hp, g, d, tk, os⟩ _ h1 q
    wp_walk using q1
    refine wpAny_stack_any fun st => wpAny_pure ?_
    split
    · rename_i c _ _ _ _ _
      cases (c == Value.type "enumerate")
      · wp_walk using q1
        exact ⟨_, rfl, h⟩
      · wp_walk using q1
        exact ⟨_, rfl, h⟩
    · wp_walk using q1
      exact ⟨_, rfl, h⟩
theorem enum1 {prog : Program} {w : World} {A : Around} {E : Value → Shared → Prop} {s : Shared} {v : Value} {o : Obj} {H : Heap → Prop} {Q : Value → Shared → Prop} (B : Begins v o H) (h1 : H s.heap)
    (h : ∀ h', IsEnum h' (s.heap.objs.size + 1) s.heap.objs.size 0 .none → h'.get? s.heap.objs.size = some o →
      (∀ b o, s.heap.get? b = some o → h'.get? b = some o) → Q (.ref (s.heap.objs.size + 1)) { s with heap := h' }) :
    wpAny (model prog w) A (call (.type "enumerate") [v]) Q E s := by
  refine callType_new F.called_enumerate (by decide) (F.typeCall_enumerate_1 _) (F.newCall_enumerate_1 _) (fun obj => F.args_object_init_2 obj _) F.entry_enumerate_new
    (meets_enum1 B) ⟨h1, ?_⟩
  have hz : (s.heap.push o).objs.size = s.heap.objs.size + 1 := Heap.size_push ..
  show _ ∧ _
  rw [hz]
  have he : IsEnum ((s.heap.push o).push { cls := .type "enumerate", data := .fields #[.none, .bool false, .ref s.heap.objs.size, rawInt 0, .none, .none] }) (s.heap.objs.size + 1) s.heap.objs.size 0 .none := by
    have := Heap.get?_push_size (s.heap.push o) (o := { cls := .type "enumerate", data := .fields #[.none, .bool false, .ref s.heap.objs.size, rawInt 0, .none, .none] }) rfl
    rw [hz] at this; exact this
  exact ⟨⟨_, he, rfl⟩, h _ he (Heap.get?_push_of_some _ (Heap.get?_push_size _ B.free)) fun b o x => Heap.get?_push_of_some _ (Heap.get?_push_of_some _ x)⟩
theorem pi_enumG {X : Cx} {e : Expr} {ta : TA} {p pos tpos : Pos} {elts : List Expr} {kk : Nat} (hg : Gl X "enumerate") (hm : X.mg "enumerate" = none) (ha : PA X [e] ta) (hs : starEach [e] X.env = [(false, eval e X.env)]) :
    PI X (.Tuple elts kk tpos) (.Call (.Name "enumerate" p) [e] [] pos) (iEnumG X.K ta) := by
  refine ⟨fun pins s σ H R I h => ?_⟩
  refine Call_ (ld_blt I hg hm boot_enumerate (PyProof.Rows.callWith_type1 (thn (ha.run pos pins s σ H _ I h) fun us s1 ⟨vs, H1, I1, r1, q1⟩ => ?_) hs rfl))
  obtain ⟨k, a, xs, ex, hq, q⟩ := q1
  subst ex
  cases r1 with
  | cons r rr =>
    cases rr
    cases r
    obtain ⟨its, rv, p', hz⟩ := hq.pl I1
    have la := p'.lt
    refine enum1 (beginsK k a its.toArray) p' fun h' he hit hk => wpAny_pyIter_enum he ?_
    have I2 : Inv X pins σ H1 { s1 with heap := h' } := I1.kept (t' := s1.toks) hk
    refine ⟨s1.heap.objs.size + 1, [s1.heap.objs.size + 1, s1.heap.objs.size], _, _, H1, rfl, I2, turn_enumG k a (s1.heap.objs.size + 1) s1.heap.objs.size (Nat.ne_of_lt la) (Nat.ne_of_gt (Nat.lt_succ_of_lt la)), ⟨⟨.none, he⟩, iterK.start hit, Nat.succ_ne_self _⟩, fun b hb => ?_, q⟩
    have e' : b = s1.heap.objs.size + 1 ∨ b = s1.heap.objs.size := by simpa using hb
    have hle : s1.heap.objs.size ≤ b := by
      rcases e' with z | z
      · rw [z]; exact Nat.le_add_right _ _
      · rw [z]; exact Nat.le_refl _
    exact I1.fpOk hle (I1.hok.fresh hle)

/-! ### zip -/
def ItzG (k1 k2 : Bool) (K : PySem.W.Frag) (a b : Addr) : It :=
  ⟨fun i H => ∃ (xs ys : List V) (x y : V), SqK k1 K H a xs ∧ SqK k2 K H b ys ∧ xs[i]? = some x ∧ ys[i]? = some y,
    fun i H v H' => ∃ T x y o, v = .ref T ∧ H T = none ∧ Obj.dict o = none ∧ H' = upd H T (.frz o (.tup [x, y])) ∧ (∀ xs, SqK k1 K H a xs → xs[i]? = some x) ∧ ∀ ys, SqK k2 K H b ys → ys[i]? = some y,
    fun i H => ∃ xs ys : List V, SqK k1 K H a xs ∧ SqK k2 K H b ys ∧ i ≤ xs.length ∧ i ≤ ys.length ∧ (xs.length = i ∨ ys.length = i)⟩
theorem turn_zipG {P : Program} {w : World} {K : PySem.W.Frag} {elts : List Expr} {kk : Nat} {tpos : Pos} (k1 k2 : Bool) {a b z TI TO i1 i2 : Addr} (Sp : ZipSep2 z TI TO i1 i2 [i1, a] [i2, b]) (na : a ≠ i1) (nb : b ≠ i2) :
    Turn P w K (.Tuple elts kk tpos) (ItzG k1 k2 K a b) [z, TI, TO, i1, i2] z (fun i h => IsZip h z TI TO .none ∧ IsTupOf2 h TI (.ref i1) (.ref i2) ∧ (∃ x y, IsTupOf2 h TO x y) ∧ iterK k1 h i1 a i ∧ iterK k2 h i2 b i) where
  mem := by simp
  obj := fun i h st c hc => by
    obtain ⟨hz, hTI, ⟨x, y, hTO⟩, h1, h2⟩ := st
    have e' : c = z ∨ c = TI ∨ c = TO ∨ c = i1 ∨ c = i2 := by simpa using hc
    rcases e' with q | q | q | q | q
    · rw [q]; exact ⟨_, hz, fun v q => nomatch q⟩
    · rw [q]; exact ⟨_, hTI, fun v q => nomatch q⟩
    · rw [q]; exact ⟨_, hTO, fun v q => nomatch q⟩
    · rw [q]; exact h1.there
    · rw [q]; exact h2.there
  keep := fun i h h' st k => by
    obtain ⟨hz, hTI, ⟨x, y, hTO⟩, h1, h2⟩ := st
    exact ⟨k z (by simp) _ hz, k TI (by simp) _ hTI, ⟨x, y, k TO (by simp) _ hTO⟩, h1.at fun o q => k i1 (by simp) o q, h2.at fun o q => k i2 (by simp) o q⟩
  item := by
    intro X hP hw hK hc i pins s σ H E I hf st hg
    subst hP hw hK
    obtain ⟨hz, hTI, ⟨x0, y0, hTO⟩, h1, h2⟩ := st
    obtain ⟨xs, ys, x, y, hqx, hqy, hx, hy⟩ := hg
    obtain ⟨its, rv, p, _⟩ := hqx.pl I
    obtain ⟨its2, rv2, p2, _⟩ := hqy.pl I
    obtain ⟨u, hu, ru⟩ := rv.get hx
    obtain ⟨u2, hu2, ru2⟩ := rv2.get hy
    have hzl : z < s.heap.objs.size := Heap.lt_size hz
    have l1 : i < its.toArray.size := by rw [List.size_toArray]; exact (List.getElem?_eq_some_iff.mp hu).1
    have l2 : i < its2.toArray.size := by rw [List.size_toArray]; exact (List.getElem?_eq_some_iff.mp hu2).1
    refine wpAny_pyNext_zipD2_item Sp (drawK (k := k1) (A := X.A.in1) (I.ok.hd hc) i1 a na its.toArray) (drawK (k := k2) (A := X.A.in1) (I.ok.hd hc) i2 b nb its2.toArray) hz hTI hTO ⟨h1, p⟩ ⟨h2, p2⟩ l1 l2 fun x1 x2 h' tk P1 P2 z' TO' st1' st2' hT hsz hk => ?_
    have e1 : x1 = u := by
      have P1 : its.toArray[i]? = some x1 := P1
      simp only [List.getElem?_toArray] at P1
      rw [hu] at P1; cases P1; rfl
    have e2 : x2 = u2 := by
      have P2 : its2.toArray[i]? = some x2 := P2
      simp only [List.getElem?_toArray] at P2
      rw [hu2] at P2; cases P2; rfl
    subst e1 e2
    refine ⟨_, rfl, wpAny_letOwnedTupleGo_zip (s := { s with heap := h', toks := tk }) z' fun h'' z'' sb => ?_⟩
    have hT2 : h''.get? s.heap.objs.size = some { cls := .type "tuple", data := .seq #[x1, x2] } := (sb.2 _ (Nat.ne_of_gt hzl)).trans hT
    have new : ObjOk X.prog X.w (upd H s.heap.objs.size (.frz { cls := .type "tuple", data := .seq #[x1, x2] } (.tup [x, y]))) h'' s.heap.objs.size (.frz { cls := .type "tuple", data := .seq #[x1, x2] } (.tup [x, y])) :=
      ⟨hT2, by show 2 ≤ sizeLine; decide, [x1, x2], .cons ru (.cons ru2 .nil), ⟨_, hT2, rfl, _, rfl⟩⟩
    have I1 : Inv X pins σ (upd H s.heap.objs.size (.frz { cls := .type "tuple", data := .seq #[x1, x2] } (.tup [x, y]))) { s with heap := h'', toks := tk } :=
      I.turnedNew (t' := tk) (ch := [z, TI, TO, i1, i2]) (fun c o hb q => (sb.2 c (fun q' => hb (by simp [q']))).trans (hk c o (fun q' => hb (by simp [q'])) (fun q' => hb (by simp [q'])) (fun q' => hb (by simp [q'])) (fun q' => hb (by simp [q'])) q)) hf (Nat.le_refl _) new
    refine ⟨.ref s.heap.objs.size, _, I1, rfl, ⟨_, x, y, _, rfl, I.hok.fresh (Nat.le_refl _), rfl, rfl, fun l hl => by rw [SqK.inj I hl hqx]; exact hx, fun l hl => by rw [SqK.inj I hl hqy]; exact hy⟩, ⟨z'', ?_, ⟨x1, x2, ?_⟩, ?_, ?_⟩, fun c hcm => ?_⟩
    · exact (sb.2 _ Sp.TIz).trans (hk _ _ Sp.TIz Sp.TITO Sp.TIi1 Sp.TIi2 hTI)
    · exact (sb.2 _ Sp.TOz).trans TO'
    · exact st1'.1.at fun o q => (sb.2 _ (Ne.symm Sp.zi1)).trans q
    · exact st2'.1.at fun o q => (sb.2 _ (Ne.symm Sp.zi2)).trans q
    · have hlt : c < s.heap.objs.size := by
        have e' : c = z ∨ c = TI ∨ c = TO ∨ c = i1 ∨ c = i2 := by simpa using hcm
        rcases e' with q | q | q | q | q
        · rw [q]; exact hzl
        · rw [q]; exact Heap.lt_size hTI
        · rw [q]; exact Heap.lt_size hTO
        · rw [q]; obtain ⟨_, e1, _⟩ := h1.there; exact Heap.lt_size e1
        · rw [q]; obtain ⟨_, e1, _⟩ := h2.there; exact Heap.lt_size e1
      rw [upd_ne (Nat.ne_of_lt hlt)]
      exact (hf c hcm).1
  done := by
    intro X hP hw hK hc i pins s σ H E I hf st hg
    subst hP hw hK
    obtain ⟨hz, hTI, ⟨x0, y0, hTO⟩, h1, h2⟩ := st
    obtain ⟨xs, ys, hqx, hqy, g1, g2, hend⟩ := hg
    obtain ⟨its, rv, p, _⟩ := hqx.pl I
    obtain ⟨its2, rv2, p2, _⟩ := hqy.pl I
    have l1 : its.toArray.size = xs.length := by rw [List.size_toArray]; exact rv.length.symm
    have l2 : its2.toArray.size = ys.length := by rw [List.size_toArray]; exact rv2.length.symm
    exact wpAny_pyNext_zipD2_end Sp (drawK (k := k1) (A := X.A.in1) (I.ok.hd hc) i1 a na its.toArray) (drawK (k := k2) (A := X.A.in1) (I.ok.hd hc) i2 b nb its2.toArray) hz hTI hTO ⟨h1, p⟩ ⟨h2, p2⟩ (by omega) (by omega) (by omega) fun h' tk hk =>
      ⟨rfl, I.turnedL (t' := tk) (ch := [z, TI, TO, i1, i2]) (fun c o hb q => hk c o (fun q' => hb (by simp [q'])) (fun q' => hb (by simp [q'])) (fun q' => hb (by simp [q'])) (fun q' => hb (by simp [q'])) q) hf⟩
  self := fun A i s Q E st h => wpAny_pyIter_zip st.1 h
def iZipG (K : PySem.W.Frag) (ta : TA) : TI := fun σ H R => ta σ H fun vs H1 => ∃ k1 k2 a b xs ys, vs = [.ref a, .ref b] ∧ SqK k1 K H1 a xs ∧ SqK k2 K H1 b ys ∧ R (ItzG k1 k2 K a b) H1
theorem pi_zipG {X : Cx} {e e2 : Expr} {ta : TA} {p pos tpos : Pos} {elts : List Expr} {kk : Nat} (hg : Gl X "zip") (hm : X.mg "zip" = none) (ha : PA X [e, e2] ta)
    (hs : starEach [e, e2] X.env = (false, eval e X.env) :: starEach [e2] X.env) (hpl : (backTo pos (starEach [e2] X.env)).any (·.1) = false) :
    PI X (.Tuple elts kk tpos) (.Call (.Name "zip" p) [e, e2] [] pos) (iZipG X.K ta) := by
  refine ⟨fun pins s σ H R I h => ?_⟩
  refine Call_ (ld_blt I hg hm PyProof.Rows.boot_zip (PyProof.Rows.callWith_type1 (thn (ha.run pos pins s σ H _ I h) fun us s1 ⟨vs, H1, I1, r1, q1⟩ => ?_) hs hpl))
  obtain ⟨k1, k2, a, b, xs, ys, ex, hqx, hqy, q⟩ := q1
  subst ex
  cases r1 with
  | cons r rr =>
    cases rr with
    | cons r' rr =>
      cases rr
      cases r
      cases r'
      obtain ⟨its, rv, p1, _⟩ := hqx.pl I1
      obtain ⟨its2, rv2, p2, _⟩ := hqy.pl I1
      have la := p1.lt
      have lb := p2.lt
      refine zip_begins2 (beginsK k1 a its.toArray) (beginsK k2 b its2.toArray) p1 p2 fun h' hz hTI hTO h1 h2 hsz hk => wpAny_pyIter_zip hz ?_
      have I2 : Inv X pins σ H1 { s1 with heap := h' } := I1.kept (t' := s1.toks) hk
      refine ⟨s1.heap.objs.size + 4, [s1.heap.objs.size + 4, s1.heap.objs.size + 2, s1.heap.objs.size + 3, s1.heap.objs.size, s1.heap.objs.size + 1], _, _, H1, rfl, I2,
        turn_zipG k1 k2 (zip_sep2 (N := s1.heap.objs.size) (fp1 := [a]) (fp2 := [b]) (by simpa using la) (by simpa using lb)) (Nat.ne_of_lt la) (Nat.ne_of_lt (Nat.lt_succ_of_lt lb)), ⟨hz, hTI, ⟨_, _, hTO⟩, iterK.start h1, iterK.start h2⟩, fun c hcm => ?_, q⟩
      have e' : c = s1.heap.objs.size + 4 ∨ c = s1.heap.objs.size + 2 ∨ c = s1.heap.objs.size + 3 ∨ c = s1.heap.objs.size ∨ c = s1.heap.objs.size + 1 := by simpa using hcm
      have hle : s1.heap.objs.size ≤ c := by
        rcases e' with z | z | z | z | z
        · rw [z]; exact Nat.le_add_right _ _
        · rw [z]; exact Nat.le_add_right _ _
        · rw [z]; exact Nat.le_add_right _ _
        · rw [z]; exact Nat.le_refl _
        · rw [z]; exact Nat.le_add_right _ _
      exact I1.fpOk hle (I1.hok.fresh hle)
end PF

set_option Elab.async false
set_option linter.all false
set_option maxRecDepth 100000
/-! PF5: the operators are sound -/
namespace PF
open PySem PySem.Spec PyProof.Rows L2

/-! ### to the library's data -/
mutual
def toPy : T → PyData
  | .non => .none | .bl b => .bool b | .int i => .int i | .str x => .str x | .tup xs => .tuple (toPys xs)
def toPys : List T → List PyData
  | [] => []
  | t :: r => toPy t :: toPys r
end
mutual
theorem eqT_py : ∀ a b : T, eqT a b = PyData.eqv (toPy a) (toPy b)
  | .non, .non | .non, .bl _ | .non, .int _ | .non, .str _ | .non, .tup _ => by simp [eqT, toPy, PyData.eqv]
  | .bl _, .non | .bl _, .bl _ | .bl _, .int _ | .bl _, .str _ | .bl _, .tup _ => by simp [eqT, toPy, PyData.eqv]
  | .int _, .non | .int _, .bl _ | .int _, .int _ | .int _, .str _ | .int _, .tup _ => by simp [eqT, toPy, PyData.eqv]
  | .str _, .non | .str _, .bl _ | .str _, .int _ | .str _, .str _ | .str _, .tup _ => by simp [eqT, toPy, PyData.eqv]
  | .tup _, .non | .tup _, .bl _ | .tup _, .int _ | .tup _, .str _ => by simp [eqT, toPy, PyData.eqv]
  | .tup xs, .tup ys => by
    simp only [eqT, toPy, PyData.eqv]
    exact eqTs_py xs ys
theorem eqTs_py : ∀ xs ys : List T, eqTs xs ys = PyData.eqvAll (toPys xs) (toPys ys)
  | [], [] => by simp [eqTs, toPys, PyData.eqvAll]
  | [], _ :: _ => by simp [eqTs, toPys, PyData.eqvAll]
  | _ :: _, [] => by simp [eqTs, toPys, PyData.eqvAll]
  | x :: xs, y :: ys => by
    simp only [eqTs, toPys, PyData.eqvAll]
    rw [eqT_py x y, eqTs_py xs ys]
end
mutual
theorem plain_py : ∀ t : T, (toPy t).plain = true
  | .non | .bl _ | .int _ | .str _ => by simp [toPy, PyData.plain]
  | .tup xs => by simp only [toPy, PyData.plain]; exact plains_py xs
theorem plains_py : ∀ ts : List T, PyData.plainAll (toPys ts) = true
  | [] => by simp [toPys, PyData.plainAll]
  | t :: r => by simp only [toPys, PyData.plainAll, plain_py t, plains_py r, Bool.and_self]
end
theorem depth_py : ∀ (n : Nat) (t : T), okT n t = true → (toPy t).depth ≤ n := by
  intro n
  induction n with
  | zero => intro t h; simp [okT] at h
  | succ n ih =>
    have all : ∀ xs : List T, xs.all (okT n) = true → PyData.depthAll (toPys xs) ≤ n := by
      intro xs
      induction xs with
      | nil => intro _; simp [toPys, PyData.depthAll]
      | cons x r ihr =>
        intro h
        simp only [List.all_cons, Bool.and_eq_true] at h
        have h1 := ih x h.1
        have h2 := ihr h.2
        simp only [toPys, PyData.depthAll]
        omega
    intro t h
    cases t with
    | tup xs =>
      have := all xs (by simpa [okT] using h)
      simp only [toPy, PyData.depth]
      omega
    | _ => simp [toPy, PyData.depth]
theorem depths_py (n : Nat) (xs : List T) (h : xs.all (okT n) = true) : PyData.depthAll (toPys xs) ≤ n := by
  induction xs with
  | nil => simp [toPys, PyData.depthAll]
  | cons x r ihr =>
    simp only [List.all_cons, Bool.and_eq_true] at h
    have h1 := depth_py n x h.1
    have h2 := ihr h.2
    simp only [toPys, PyData.depthAll]
    omega
mutual
theorem RT.dp {K : PySem.W.Frag} {H : Hp} : ∀ {v : V} {t : T}, RT K H v t → Dp K H v (toPy t)
  | _, _, .non => .non
  | _, _, .bl b => .bl b
  | _, _, .int i => .int i
  | _, _, .str x => .str x
  | _, _, .tup h hs => .tup h.t (RTs.dp hs)
theorem RTs.dp {K : PySem.W.Frag} {H : Hp} : ∀ {vs : List V} {ts : List T}, RTs K H vs ts → DpAll K H vs (toPys ts)
  | _, _, .nil => .nil
  | _, _, .cons h hs => .cons (RT.dp h) (RTs.dp hs)
end

/-! ### what is known of a value -/
def Rd (K : PySem.W.Frag) (H : Hp) (v : V) (d : D) : Prop := ∃ G, OW K H v d G
def NewV (K : PySem.W.Frag) (H : Hp) (v : V) (d : D) (H' : Hp) : Prop := ∃ G, OW K H' v d G ∧ ND G ∧ (∀ a ∈ G, H a = none) ∧ Fr H H' []
section
variable {K : PySem.W.Frag} {H : Hp} {v : V}
theorem Rd.rt {t : T} (h : Rd K H v (.p t)) : RT K H v t := by
  obtain ⟨G, h⟩ := h
  cases h with
  | p h => exact h
theorem Rd.int {i : Int} (h : Rd K H v (.p (.int i))) : v = .int i := by
  cases h.rt
  rfl
theorem Rd.bl {i : Bool} (h : Rd K H v (.p (.bl i))) : v = .bl i := by
  cases h.rt
  rfl
theorem Rd.str {i : Str} (h : Rd K H v (.p (.str i))) : v = .str i := by
  cases h.rt
  rfl
theorem Rd.non (h : Rd K H v (.p .non)) : v = .non := by
  cases h.rt
  rfl
theorem Rd.tupD {ts : List T} (h : Rd K H v (.p (.tup ts))) : ∃ a vs, v = .ref a ∧ SqD K H a vs ∧ RTs K H vs ts := by
  cases h.rt with
  | tup h1 hs => exact ⟨_, _, rfl, h1, hs⟩
theorem Rd.tup {ts : List T} (h : Rd K H v (.p (.tup ts))) : ∃ a vs, v = .ref a ∧ SqT K H a vs ∧ RTs K H vs ts := by
  obtain ⟨a, vs, e, h1, hs⟩ := h.tupD
  exact ⟨a, vs, e, h1.t, hs⟩
theorem Rd.lst {ds : List D} (h : Rd K H v (.l ds)) : ∃ a vs G, v = .ref a ∧ H a = some (.lst vs) ∧ OWs K H vs ds G := by
  obtain ⟨G, h⟩ := h
  cases h with
  | l h hs => exact ⟨_, _, _, rfl, h, hs⟩
theorem Rd.lstP {ds : List D} {ts : List T} (h : Rd K H v (.l ds)) (p : pures ds = some ts) : ∃ a vs, v = .ref a ∧ H a = some (.lst vs) ∧ RTs K H vs ts := by
  obtain ⟨a, vs, G, e, h, hs⟩ := h.lst
  rw [pures_eq p] at hs
  exact ⟨a, vs, e, h, hs.rts.1⟩
theorem Rd.items {d : D} {ts : List T} (h : Rd K H v d) (p : items d = some ts) : ∃ a vs, v = .ref a ∧ SqL K H a vs ∧ RTs K H vs ts := by
  cases d with
  | l ds =>
    obtain ⟨a, vs, e, h, hs⟩ := h.lstP p
    exact ⟨a, vs, e, .of h, hs⟩
  | ro us =>
    have e : us = ts := Option.some.inj p
    subst e
    obtain ⟨G, h⟩ := h
    cases h with
    | ro h hs => exact ⟨_, _, rfl, h.l, hs⟩
  | p t => cases p
  | u _ => cases p
  | c _ _ => cases p
theorem Rd.seq {d : D} {ts : List T} (h : Rd K H v d) (p : seqT d = some ts) : ∃ a vs, v = .ref a ∧ (SqL K H a vs ∨ SqT K H a vs) ∧ RTs K H vs ts := by
  unfold seqT at p
  split at p
  · cases p
    obtain ⟨a, vs, e, h, hs⟩ := h.tup
    exact ⟨a, vs, e, .inr h, hs⟩
  · obtain ⟨a, vs, e, h, hs⟩ := h.items p
    exact ⟨a, vs, e, .inl h, hs⟩
theorem NewV.p {t : T} (h : RT K H v t) : NewV K H v (.p t) H := ⟨[], .p h, ND.nil, fun _ z => (nomatch z), Fr.refl _ _⟩
theorem NewV.int (i : Int) : NewV K H (.int i) (I i) H := .p (.int i)
theorem NewV.bl (i : Bool) : NewV K H (.bl i) (B i) H := .p (.bl i)
theorem newRTs {a : Addr} {o : HO} {vs : List V} {ts : List T} (h : H a = none) (r : RTs K H vs ts) : RTs K (upd H a o) vs ts := r.fr (F := []) (Fr.new h) MutF.nil
theorem NewV.list {a : Addr} {vs : List V} {ts : List T} (h : H a = none) (r : RTs K H vs ts) : NewV K H (.ref a) (L ts) (upd H a (.lst vs)) :=
  ⟨[a], .l upd_same (.pure (newRTs h r)), ND.one a, fun b z => by rw [List.mem_singleton.mp z]; exact h, Fr.new h⟩
theorem NewV.tup {a : Addr} {vs : List V} {ts : List T} {o : Obj} (h : H a = none) (ho : o.dict = none) (r : RTs K H vs ts) : NewV K H (.ref a) (.p (.tup ts)) (upd H a (.frz o (.tup vs))) :=
  ⟨[], .p (.tup (.inl ⟨o, upd_same, ho⟩) (newRTs h r)), ND.nil, fun b z => (nomatch z), Fr.new h⟩
theorem RTs.ints {vs : List V} : ∀ {ts : List T} {is : List Int}, RTs K H vs ts → intsOf ts = some is → vs = is.map V.int := by
  induction vs with
  | nil => intro ts is r e; cases r; cases e; rfl
  | cons v vs ih =>
    intro ts is r e
    cases r with
    | @cons _ _ t ts h hs =>
      cases t with
      | int i =>
        simp only [intsOf] at e
        cases e2 : intsOf ts with
        | none => rw [e2] at e; cases e
        | some js =>
          rw [e2] at e
          cases e
          cases h
          rw [ih hs e2]
          rfl
      | _ => cases e
theorem RTs.blss {vs : List V} : ∀ {ts : List T} {is : List Bool}, RTs K H vs ts → blsOf ts = some is → vs = is.map V.bl := by
  induction vs with
  | nil => intro ts is r e; cases r; cases e; rfl
  | cons v vs ih =>
    intro ts is r e
    cases r with
    | @cons _ _ t ts h hs =>
      cases t with
      | bl i =>
        simp only [blsOf] at e
        cases e2 : blsOf ts with
        | none => rw [e2] at e; cases e
        | some js =>
          rw [e2] at e
          cases e
          cases h
          rw [ih hs e2]
          rfl
      | _ => cases e
theorem RTs.of_ints : ∀ is : List Int, RTs K H (is.map V.int) (is.map T.int)
  | [] => .nil
  | i :: r => .cons (.int i) (RTs.of_ints r)
theorem LIM_line : LIM = sizeLine := by rw [sizeLine_eq]; rfl
end
end PF

set_option Elab.async false
set_option linter.all false
set_option maxRecDepth 100000
/-! PF6: the operators are sound: two places -/
namespace PF
open PySem PySem.Spec PyProof.Rows L2
section
variable {K : PySem.W.Frag} {H : Hp} {x y : V} {d e z : D} {Q : VK}
/-- what an operator's reading asks is met -/
def Meet (K : PySem.W.Frag) (H : Hp) (z : D) (Q : VK) : Prop := ∀ v H', NewV K H v z H' → Q v H'
theorem cnt (a : Int) (b : Int) (q : Meet K H (I (a + b)) Q) : Q (.int (a + b)) H := q _ _ (.int _)

/-! ### arithmetic -/
/-- t + u -/
def rCatF (K : PySem.W.Frag) : R2 := fun x y H Q => ∃ a b xs ys, x = .ref a ∧ y = .ref b ∧ SqT K H a xs ∧ SqT K H b ys ∧ xs.length + ys.length ≤ sizeLine ∧
  (xs = [] → Q (.ref b) H) ∧ (xs ≠ [] → ys = [] → Q (.ref a) H) ∧ (xs ≠ [] → ys ≠ [] → ∀ p (o : Obj), H p = none → o.dict = none → Q (.ref p) (upd H p (.frz o (.tup (xs ++ ys)))))
theorem op_catF {X : Cx} : OpR X (binaryOp .Add) (rCatF X.K) := by
  intro pins s σ H x y v u Q I rx ry ⟨a, b, xs, ys, ex, ey, ha, hb, hz, q0, q1, q2⟩
  subst ex ey
  cases rx
  cases ry
  obtain ⟨its, r1, p1, _⟩ := I.tuple ha
  obtain ⟨its2, r2, p2, _⟩ := I.tuple hb
  have n1 : its = [] ↔ xs = [] := by cases r1 <;> simp
  have n2 : its2 = [] ↔ ys = [] := by cases r2 <;> simp
  by_cases hx : xs = []
  · have e := n1.mpr hx
    subst e
    exact cat_tup0 p1 p2 ⟨.ref b, H, I, rfl, q0 hx⟩
  · refine HT.cat_tup p1 p2 (fun z => hx (n1.mp z)) (fun z => ⟨.ref a, H, I, rfl, q1 hx (n2.mp z)⟩) (fun z => ?_) (by rw [← r1.length, ← r2.length]; exact hz)
    have hg := Heap.get?_push_size s.heap (o := { cls := .type "tuple", data := .seq (its ++ its2).toArray }) rfl
    refine ⟨.ref s.heap.objs.size, _, I.laid (t' := s.toks) (o := .frz { cls := .type "tuple", data := .seq (its ++ its2).toArray } (.tup (xs ++ ys))) (fun c ob q => Heap.get?_push_of_some _ q) (Nat.le_refl _) ⟨hg, ?_, _, r1.append r2, ⟨_, hg, rfl, _, rfl⟩⟩, rfl, q2 hx (fun w => z (n2.mpr w)) _ _ (I.hok.fresh (Nat.le_refl _)) rfl⟩
    rw [List.length_append]; exact hz
def rAdd (K : PySem.W.Frag) : R2 := fun x y H Q => ((rI0 (fun i j => .int (i + j)) x y H Q ∨ rCatF K x y H Q) ∨ rCat x y H Q) ∨ ∃ i j, x = .str i ∧ y = .str j ∧ i.length + j.length ≤ sizeLine ∧ Q (.str (i ++ j)) H
theorem or_add {X : Cx} : OpR X (binaryOp .Add) (rAdd X.K) := ((op_add.or op_catF).or op_cat).or op_add_str
theorem s_add (h : addD [d, e] = some z) (hx : Rd K H x d) (hy : Rd K H y e) (q : Meet K H z Q) : rAdd K x y H Q := by
  unfold addD at h
  split at h
  · rename_i a b heq
    cases heq; cases h
    rw [hx.int, hy.int]
    exact .inl (.inl (.inl ⟨a, b, rfl, rfl, q _ _ (.int _)⟩))
  · rename_i a b heq
    cases heq
    split at h
    · rename_i hl
      cases h
      obtain ⟨p, vs, rfl, hp, rp⟩ := hx.tupD
      obtain ⟨p2, vs2, rfl, hp2, rp2⟩ := hy.tupD
      refine .inl (.inl (.inr ⟨p, p2, vs, vs2, rfl, rfl, hp.t, hp2.t, by rw [rp.len, rp2.len, ← LIM_line]; exact hl, fun e => ?_, fun e1 e2 => ?_, fun e1 e2 c o hc ho => ?_⟩))
      · subst e
        cases rp
        exact q _ _ (.p (.tup hp2 rp2))
      · subst e2
        cases rp2
        refine q _ _ (.p ?_)
        rw [List.append_nil]
        exact .tup hp rp
      · exact q _ _ (.tup hc ho (rp.app rp2))
    · cases h
  · rename_i a b heq
    cases heq
    split at h
    · rename_i hl
      cases h
      rw [hx.str, hy.str]
      exact .inr ⟨a, b, rfl, rfl, by rw [← LIM_line]; exact hl, q _ _ (.p (.str _))⟩
    · cases h
  · rename_i a b heq
    cases heq
    split at h
    · rename_i xs ys e1 e2
      split at h
      · rename_i hl
        cases h
        obtain ⟨p, vs, rfl, hp, rp⟩ := hx.lstP e1
        obtain ⟨p2, vs2, rfl, hp2, rp2⟩ := hy.lstP e2
        exact .inl (.inr ⟨p, p2, vs, vs2, rfl, rfl, hp, hp2, by rw [rp.len, rp2.len, ← LIM_line]; exact hl, fun c hc => q _ _ (.list hc (rp.app rp2))⟩)
      · cases h
    · cases h
  · cases h
theorem s_sub (h : subD [d, e] = some z) (hx : Rd K H x d) (hy : Rd K H y e) (q : Meet K H z Q) : rI0 (fun i j => .int (i - j)) x y H Q := by
  unfold subD at h
  split at h
  · rename_i a b heq
    cases heq; cases h
    rw [hx.int, hy.int]
    exact ⟨a, b, rfl, rfl, q _ _ (.int _)⟩
  · cases h
theorem RTs.rep {vs : List V} {ts : List T} (r : RTs K H vs ts) : ∀ k : Nat, RTs K H (List.replicate k vs).flatten (List.replicate k ts).flatten
  | 0 => .nil
  | k + 1 => by
    rw [List.replicate_succ, List.replicate_succ, List.flatten_cons, List.flatten_cons]
    exact r.app (RTs.rep r k)
def rMul : R2 := fun x y H Q => rI CMul (fun i j => .int (i * j)) x y H Q ∨ rRep x y H Q
theorem or_mul {X : Cx} : OpR X (binaryOp .Mult) rMul := op_mul.or op_rep
theorem big64_of {a b : Int} (h : (big64 a || big64 b) = true) : CMul a b := by
  unfold big64 at h
  simp only [Bool.or_eq_true, Bool.and_eq_true, decide_eq_true_eq] at h
  exact h
theorem s_mul (h : mulD [d, e] = some z) (hx : Rd K H x d) (hy : Rd K H y e) (q : Meet K H z Q) : rMul x y H Q := by
  unfold mulD at h
  split at h
  · rename_i a b heq
    cases heq
    split at h
    · rename_i hb
      cases h
      rw [hx.int, hy.int]
      exact .inl ⟨a, b, rfl, rfl, big64_of hb, q _ _ (.int _)⟩
    · cases h
  · rename_i xs k heq
    cases heq
    split at h
    · rename_i ts e1
      split at h
      · rename_i hk
        cases h
        simp only [Bool.and_eq_true, decide_eq_true_eq] at hk
        obtain ⟨p, vs, rfl, hp, rp⟩ := hx.lstP e1
        rw [hy.int]
        refine .inr ⟨p, k, vs, rfl, rfl, hp, hk.1.1, hk.1.2, by rw [rp.len, ← LIM_line]; exact hk.2, fun c hc => q _ _ (.list hc (rp.rep _))⟩
      · cases h
    · cases h
  · cases h
theorem s_fdiv (h : fdivD [d, e] = some z) (hx : Rd K H x d) (hy : Rd K H y e) (q : Meet K H z Q) : rI CDivW (fun i j => .int (i / j)) x y H Q := by
  unfold fdivD at h
  split at h
  · rename_i a b heq
    cases heq
    split at h
    · rename_i hb
      cases h
      simp only [Bool.and_eq_true, decide_eq_true_eq] at hb
      rw [hx.int, hy.int]
      exact ⟨a, b, rfl, rfl, hb, q _ _ (.int _)⟩
    · cases h
  · cases h
theorem s_mod (h : modD [d, e] = some z) (hx : Rd K H x d) (hy : Rd K H y e) (q : Meet K H z Q) : rI (fun _ j => 0 < j) (fun i j => .int (i % j)) x y H Q := by
  unfold modD at h
  split at h
  · rename_i a b heq
    cases heq
    split at h
    · rename_i hb
      cases h
      simp only [decide_eq_true_eq] at hb
      rw [hx.int, hy.int]
      exact ⟨a, b, rfl, rfl, hb, q _ _ (.int _)⟩
    · cases h
  · cases h
theorem powC_of {a b : Int} (h : powC a b = true) : CPow a b := by
  unfold powC at h
  simp only [Bool.and_eq_true, decide_eq_true_eq] at h
  exact ⟨h.1.1, h.1.2, h.2⟩
theorem s_pow (h : powD [d, e] = some z) (hx : Rd K H x d) (hy : Rd K H y e) (q : Meet K H z Q) : rI CPow (fun i j => .int (i ^ j.toNat)) x y H Q := by
  unfold powD at h
  split at h
  · rename_i a b heq
    cases heq
    split at h
    · rename_i hb
      cases h
      rw [hx.int, hy.int]
      exact ⟨a, b, rfl, rfl, powC_of hb, q _ _ (.int _)⟩
    · cases h
  · cases h
theorem s_shl (h : shlD [d, e] = some z) (hx : Rd K H x d) (hy : Rd K H y e) (q : Meet K H z Q) : rI CPow (fun i j => .int (i * 2 ^ j.toNat)) x y H Q := by
  unfold shlD at h
  split at h
  · rename_i a b heq
    cases heq
    split at h
    · rename_i hb
      cases h
      rw [hx.int, hy.int]
      exact ⟨a, b, rfl, rfl, powC_of hb, q _ _ (.int _)⟩
    · cases h
  · cases h
theorem s_shr (h : shrD [d, e] = some z) (hx : Rd K H x d) (hy : Rd K H y e) (q : Meet K H z Q) : rI (fun _ j => 0 ≤ j) (fun i j => .int (i / 2 ^ j.toNat)) x y H Q := by
  unfold shrD at h
  split at h
  · rename_i a b heq
    cases heq
    split at h
    · rename_i hb
      cases h
      simp only [decide_eq_true_eq] at hb
      rw [hx.int, hy.int]
      exact ⟨a, b, rfl, rfl, hb, q _ _ (.int _)⟩
    · cases h
  · cases h
theorem s_bit {f : Int → Int → Int} (h : bitD f [d, e] = some z) (hx : Rd K H x d) (hy : Rd K H y e) (q : Meet K H z Q) : rI0 (fun i j => .int (f i j)) x y H Q := by
  unfold bitD at h
  split at h
  · rename_i a b heq
    cases heq; cases h
    rw [hx.int, hy.int]
    exact ⟨a, b, rfl, rfl, q _ _ (.int _)⟩
  · cases h
theorem s_neg (h : negD [d] = some z) (hx : Rd K H x d) (q : Meet K H z Q) : rU (fun i => .int (-i)) x H Q := by
  unfold negD at h
  split at h
  · rename_i a heq
    cases heq; cases h
    rw [hx.int]
    exact ⟨a, rfl, q _ _ (.int _)⟩
  · cases h

/-! ### comparisons -/
theorem s_cmp {f : Int → Int → Bool} (h : cmpD f [d, e] = some z) (hx : Rd K H x d) (hy : Rd K H y e) (q : Meet K H z Q) : rI0 (fun i j => .bl (f i j)) x y H Q := by
  unfold cmpD at h
  split at h
  · rename_i a b heq
    cases heq; cases h
    rw [hx.int, hy.int]
    exact ⟨a, b, rfl, rfl, q _ _ (.bl _)⟩
  · cases h
/-- as the library's data: a pure thing, or a list of pure things -/
def pyD : D → Option PyData
  | .p t => some (toPy t)
  | d => (items d).map fun ts => .list (toPys ts)
theorem Rd.dp {p : PyData} (h : Rd K H x d) (e : pyD d = some p) : Dp K H x p := by
  cases d with
  | p t => cases e; exact h.rt.dp
  | l ds =>
    cases e2 : PF.items (.l ds) with
    | none => simp [pyD, e2] at e
    | some ts =>
      simp [pyD, e2] at e
      subst e
      obtain ⟨a, vs, rfl, hs, r⟩ := h.items e2
      exact .lst hs r.dp
  | ro us =>
    have e' : PyData.list (toPys us) = p := Option.some.inj e
    subst e'
    obtain ⟨a, vs, rfl, hs, r⟩ := h.items (ts := us) rfl
    exact .lst hs r.dp
  | u _ => cases e
  | c _ _ => cases e
theorem pyD_plain {p : PyData} (e : pyD d = some p) : p.plain = true := by
  unfold pyD at e
  split at e
  · cases e; exact plain_py _
  · cases e2 : items d with
    | none => rw [e2] at e; cases e
    | some ts => rw [e2] at e; cases e; simp only [PyData.plain]; exact plains_py ts
theorem okD_depth {p : PyData} (e : pyD d = some p) (h : okD d = true) : p.depth ≤ 32 := by
  cases d with
  | p t => cases e; exact depth_py 32 t h
  | l ds =>
    simp only [pyD, okD] at e h
    cases e2 : items (.l ds) with
    | none => rw [e2] at e; cases e
    | some ts =>
      rw [e2] at e h
      cases e
      have := depths_py 31 ts h
      simp only [PyData.depth]
      omega
  | ro us =>
    simp only [pyD, okD, items] at e h
    cases e
    have := depths_py 31 us h
    simp only [PyData.depth]
    omega
  | u _ => cases e
  | c _ _ => cases e
theorem eqD_py {b : Bool} (h : eqD d e = some b) : ∃ p p', pyD d = some p ∧ pyD e = some p' ∧ b = PyData.eqv p p' ∧ min p.depth p'.depth ≤ 32 := by
  have key : ∀ p p', pyD d = some p → pyD e = some p' → (okD d || okD e) = true → min p.depth p'.depth ≤ 32 := by
    intro p p' e1 e2 h
    rcases Bool.or_eq_true _ _ ▸ h with h | h
    · have := okD_depth e1 h; omega
    · have := okD_depth e2 h; omega
  cases d with
  | p t =>
    cases e with
    | p t' =>
      simp only [eqD] at h
      split at h
      · rename_i c
        cases h
        exact ⟨_, _, rfl, rfl, eqT_py _ _, key _ _ rfl rfl c⟩
      · cases h
    | l ds =>
      simp only [eqD] at h
      split at h
      · rename_i c
        cases e2 : items (.l ds) with
        | none => rw [e2] at h; cases h
        | some ts =>
          rw [e2] at h; cases h
          have e3 : pyD (.l ds) = some (.list (toPys ts)) := by simp [pyD, e2]
          refine ⟨_, _, rfl, e3, ?_, key _ _ rfl e3 c⟩
          cases t <;> simp [toPy, PyData.eqv]
      · cases h
    | ro us =>
      simp only [eqD] at h
      split at h
      · rename_i c
        cases h
        refine ⟨_, _, rfl, rfl, ?_, key _ _ rfl rfl c⟩
        cases t <;> simp [toPy, PyData.eqv]
      · cases h
    | u _ => simp [eqD, items] at h
    | c _ _ => simp [eqD, items] at h
  | l ds =>
    cases e1 : items (.l ds) with
    | none =>
      cases e <;> simp [eqD, e1] at h
    | some ts =>
      have e3 : pyD (.l ds) = some (.list (toPys ts)) := by simp [pyD, e1]
      cases e with
      | p t =>
        simp only [eqD] at h
        split at h
        · rename_i c
          rw [e1] at h; cases h
          refine ⟨_, _, e3, rfl, ?_, key _ _ e3 rfl c⟩
          cases t <;> simp [toPy, PyData.eqv]
        · cases h
      | l es =>
        simp only [eqD] at h
        split at h
        · rename_i c
          cases e2 : items (.l es) with
          | none => rw [e1, e2] at h; cases h
          | some us =>
            rw [e1, e2] at h; cases h
            have e4 : pyD (.l es) = some (.list (toPys us)) := by simp [pyD, e2]
            exact ⟨_, _, e3, e4, by rw [eqTs_py]; simp [PyData.eqv], key _ _ e3 e4 c⟩
        · cases h
      | ro us =>
        simp only [eqD] at h
        split at h
        · rename_i c
          rw [e1] at h
          simp only [items] at h
          cases h
          exact ⟨_, _, e3, rfl, by rw [eqTs_py]; simp [PyData.eqv], key _ _ e3 rfl c⟩
        · cases h
      | u _ => simp [eqD, items] at h
      | c _ _ => simp [eqD, items] at h
  | ro ts =>
    have e3 : pyD (.ro ts) = some (.list (toPys ts)) := rfl
    cases e with
    | p t =>
      simp only [eqD] at h
      split at h
      · rename_i c
        cases h
        refine ⟨_, _, e3, rfl, ?_, key _ _ e3 rfl c⟩
        cases t <;> simp [toPy, PyData.eqv]
      · cases h
    | l es =>
      simp only [eqD] at h
      split at h
      · rename_i c
        cases e2 : items (.l es) with
        | none => rw [e2] at h; simp [items] at h
        | some us =>
          rw [e2] at h
          simp only [items] at h
          cases h
          have e4 : pyD (.l es) = some (.list (toPys us)) := by simp [pyD, e2]
          exact ⟨_, _, e3, e4, by rw [eqTs_py]; simp [PyData.eqv], key _ _ e3 e4 c⟩
      · cases h
    | ro us =>
      simp only [eqD] at h
      split at h
      · rename_i c
        simp only [items] at h
        cases h
        exact ⟨_, _, e3, rfl, by rw [eqTs_py]; simp [PyData.eqv], key _ _ e3 rfl c⟩
      · cases h
    | u _ => simp [eqD, items] at h
    | c _ _ => simp [eqD, items] at h
  | u _ => cases e <;> simp [eqD, items, okD] at h
  | c _ _ => cases e <;> simp [eqD, items, okD] at h
def rEqP (K : PySem.W.Frag) (neg : Bool) : R2 := fun x y H Q => ∃ p p', Dp K H x p ∧ Dp K H y p' ∧ p.plain = true ∧ p'.plain = true ∧ min p.depth p'.depth ≤ 32 ∧ Q (.bl (if neg = true then !PyData.eqv p p' else PyData.eqv p p')) H
theorem or_eq {X : Cx} (hu : X.A.units + 64 < cLine) : OpR X (compareOp .Eq) (rEqP X.K false) := by
  intro pins s σ H x y v u Q I rx ry h
  obtain ⟨p, p', hd, he, sd, se, hz, q⟩ := h
  obtain ⟨as, r1⟩ := Dp.reads I p x v hd rx
  obtain ⟨bs, r2⟩ := Dp.reads I p' y u he ry
  exact SeqAt.eq_plain r1 r2 sd se (by omega) ⟨.bl _, H, I, rfl, q⟩
theorem or_ne {X : Cx} (hu : X.A.units + 64 < cLine) : OpR X (compareOp .NotEq) (rEqP X.K true) := by
  intro pins s σ H x y v u Q I rx ry h
  obtain ⟨p, p', hd, he, sd, se, hz, q⟩ := h
  obtain ⟨as, r1⟩ := Dp.reads I p x v hd rx
  obtain ⟨bs, r2⟩ := Dp.reads I p' y u he ry
  exact SeqAt.ne_plain r1 r2 sd se (by omega) ⟨.bl _, H, I, rfl, q⟩
theorem s_eq {neg : Bool} (h : eqOp neg [d, e] = some z) (hx : Rd K H x d) (hy : Rd K H y e) (q : Meet K H z Q) : rEqP K neg x y H Q := by
  simp only [eqOp] at h
  cases e1 : eqD d e with
  | none => rw [e1] at h; cases h
  | some b =>
    rw [e1] at h; cases h
    obtain ⟨p, p', h1, h2, h3, h4⟩ := eqD_py e1
    refine ⟨p, p', hx.dp h1, hy.dp h2, pyD_plain h1, pyD_plain h2, h4, ?_⟩
    rw [← h3]
    exact q _ _ (.bl _)
def rIs (neg : Bool) : R2 := fun x y H Q => (y = .non ∧ Q (.bl (if neg = true then !decide (x = .non) else decide (x = .non))) H) ∨ ∃ a b, x = .bl a ∧ y = .bl b ∧ Q (.bl (if neg = true then !decide (a = b) else decide (a = b))) H
theorem or_is {X : Cx} : OpR X (compareOp .Is) (rIs false) := op_isN.or op_is_bl
theorem or_isn {X : Cx} : OpR X (compareOp .IsNot) (rIs true) := op_notN.or op_isnot_bl
theorem Rd.notNon (hx : Rd K H x d) (h : d ≠ .p .non) : x ≠ .non := by
  rintro rfl
  obtain ⟨G, hx⟩ := hx
  cases hx with
  | p r => cases r; exact h rfl
theorem s_is {neg : Bool} (h : isD neg [d, e] = some z) (hx : Rd K H x d) (hy : Rd K H y e) (q : Meet K H z Q) : rIs neg x y H Q := by
  unfold isD at h
  split at h
  · rename_i a b heq
    cases heq; cases h
    rw [hx.bl, hy.bl]
    refine .inr ⟨a, b, rfl, rfl, ?_⟩
    exact q _ _ (.bl _)
  · rename_i heq
    cases heq; cases h
    rw [hx.non, hy.non]
    refine .inl ⟨rfl, ?_⟩
    have e : (if neg = true then !decide (V.non = V.non) else decide (V.non = V.non)) = !neg := by cases neg <;> rfl
    rw [e]
    exact q _ _ (.bl _)
  · rename_i d' hn1 hn2 heq
    cases heq; cases h
    rw [hy.non]
    refine .inl ⟨rfl, ?_⟩
    have hne : x ≠ .non := hx.notNon fun e => hn2 (by rw [e])
    have e : (if neg = true then !decide (x = V.non) else decide (x = V.non)) = neg := by
      cases neg <;> simp [hne]
    rw [e]
    exact q _ _ (.bl _)
  · cases h
theorem any_py (t : T) : ∀ ts : List T, (ts.any fun z => eqT z t) = (toPys ts).any fun z => PyData.eqv z (toPy t)
  | [] => rfl
  | x :: r => by
    have ih := any_py t r
    simp only [List.any_cons, toPys]
    rw [ih, eqT_py]
def rInP (K : PySem.W.Frag) (neg : Bool) : R2 := fun x y H Q => ∃ d ds a vs, Dp K H x d ∧ y = .ref a ∧ DpAll K H vs ds ∧ (SqL K H a vs ∨ SqT K H a vs) ∧ d.plain = true ∧ PyData.plainAll ds = true ∧ d.depth ≤ 32 ∧
  Q (.bl (if neg = true then !ds.any fun z => PyData.eqv z d else ds.any fun z => PyData.eqv z d)) H
theorem or_in {X : Cx} (hu : X.A.units + 65 < cLine) : OpR X (compareOp .In) (rInP X.K false) := by
  intro pins s σ H x y v u Q I rx ry h
  obtain ⟨d, ds, a, vs, hd, rfl, he, hs, sd, se, hz, q⟩ := h
  obtain ⟨as, r1⟩ := Dp.reads I d x v hd rx
  rcases hs with hs | hs
  · obtain ⟨bs, r2⟩ := Dp.reads I (.list ds) (.ref a) u (.lst hs he) ry
    exact SeqAt.in_list_data r2 r1 se sd (by omega) ⟨.bl _, H, I, rfl, q⟩
  · obtain ⟨bs, r2⟩ := Dp.reads I (.tuple ds) (.ref a) u (.tup hs he) ry
    exact SeqAt.in_tuple_data r2 r1 se sd (by omega) ⟨.bl _, H, I, rfl, q⟩
theorem or_nin {X : Cx} (hu : X.A.units + 65 < cLine) : OpR X (compareOp .NotIn) (rInP X.K true) := by
  intro pins s σ H x y v u Q I rx ry h
  obtain ⟨d, ds, a, vs, hd, rfl, he, hs, sd, se, hz, q⟩ := h
  obtain ⟨as, r1⟩ := Dp.reads I d x v hd rx
  rcases hs with hs | hs
  · obtain ⟨bs, r2⟩ := Dp.reads I (.list ds) (.ref a) u (.lst hs he) ry
    exact SeqAt.notIn_list_data r2 r1 se sd (by omega) ⟨.bl _, H, I, rfl, q⟩
  · obtain ⟨bs, r2⟩ := Dp.reads I (.tuple ds) (.ref a) u (.tup hs he) ry
    exact SeqAt.notIn_tuple_data r2 r1 se sd (by omega) ⟨.bl _, H, I, rfl, q⟩
theorem s_in {neg : Bool} (h : inD neg [d, e] = some z) (hx : Rd K H x d) (hy : Rd K H y e) (q : Meet K H z Q) : rInP K neg x y H Q := by
  unfold inD at h
  split at h
  · rename_i t d' heq
    cases heq
    split at h
    · rename_i ts e1
      split at h
      · rename_i hk
        cases h
        obtain ⟨a, vs, rfl, hs, r⟩ := hy.seq e1
        refine ⟨toPy t, toPys ts, a, vs, hx.rt.dp, rfl, r.dp, hs, plain_py t, plains_py ts, Nat.le_trans (depth_py 31 t hk) (by decide), ?_⟩
        rw [← any_py]
        exact q _ _ (.bl _)
      · cases h
    · cases h
  · cases h
end
end PF

set_option Elab.async false
set_option linter.all false
set_option maxRecDepth 100000
/-! PF7: the calls of built-ins are sound -/
namespace PF
open PySem PySem.Spec PyProof.Rows L2
section
variable {K : PySem.W.Frag} {H : Hp} {x y : V} {d e z : D} {Q : VK}

abbrev Rds (K : PySem.W.Frag) (H : Hp) : List V → List D → Prop := Paired (Rd K H)
/-- a call that answers as k says -/
def CS (X : Cx) (f : Value) (k : List D → Option D) : Prop := CallR X f fun xs H Q => ∃ ds z, Rds X.K H xs ds ∧ k ds = some z ∧ Meet X.K H z Q
theorem CallR.mono {X : Cx} {f : Value} {r r' : List V → Hp → VK → Prop} (h : CallR X f r) (i : ∀ xs H Q, r' xs H Q → r xs H Q) : CallR X f r' :=
  fun pins s σ H xs us Q I r q => h pins s σ H xs us Q I r (i _ _ _ q)
theorem CS.of {X : Cx} {f : Value} {k : List D → Option D} {r : List V → Hp → VK → Prop} (h : CallR X f r)
    (i : ∀ xs H Q ds z, Rds X.K H xs ds → k ds = some z → Meet X.K H z Q → r xs H Q) : CS X f k :=
  CallR.mono h fun xs H Q ⟨ds, z, r, e, q⟩ => i xs H Q ds z r e q
theorem rds1 {xs : List V} (r : Rds K H xs [d]) : ∃ x, xs = [x] ∧ Rd K H x d := by
  cases r with
  | cons h t => cases t; exact ⟨_, rfl, h⟩
theorem rds2 {xs : List V} (r : Rds K H xs [d, e]) : ∃ x y, xs = [x, y] ∧ Rd K H x d ∧ Rd K H y e := by
  cases r with
  | cons h t =>
    cases t with
    | cons h2 t => cases t; exact ⟨_, _, rfl, h, h2⟩
theorem Rd.seqs {ds : List D} (h : Rd K H x (.u ds)) : ∃ a vs G, x = .ref a ∧ SqT K H a vs ∧ OWs K H vs ds G := by
  obtain ⟨G, h⟩ := h
  cases h with
  | u h hs => exact ⟨_, _, _, rfl, h.t, hs⟩
theorem Rd.roS {ts : List T} (h : Rd K H x (.ro ts)) : ∃ a vs, x = .ref a ∧ SqF K H a vs ∧ RTs K H vs ts := by
  obtain ⟨G, h⟩ := h
  cases h with
  | ro h hs => exact ⟨_, _, rfl, h, hs⟩
theorem Rd.notC {ks : List T} {vs : List D} (h : Rd K H x (.c ks vs)) : False := by
  obtain ⟨G, h⟩ := h
  cases h

theorem cs_len {X : Cx} : CS X (.builtin "len") lenD := CS.of call_len fun xs H Q ds z r e q => by
  unfold lenD at e
  split at e
  · rename_i s
    split at e
    · rename_i hl
      cases e
      obtain ⟨x, rfl, h⟩ := rds1 r
      rw [h.str]
      exact ⟨_, s.length, rfl, ⟨by rw [← LIM_line]; exact hl, rfl⟩, q _ _ (.int _)⟩
    · cases e
  · cases e
    obtain ⟨x, rfl, h⟩ := rds1 r
    obtain ⟨a, vs, rfl, hs, rr⟩ := h.tup
    exact ⟨_, _, rfl, .inr ⟨vs, hs, rr.len.symm⟩, q _ _ (.int _)⟩
  · cases e
    obtain ⟨x, rfl, h⟩ := rds1 r
    obtain ⟨a, vs, G, rfl, hs, rr⟩ := h.lst
    exact ⟨_, _, rfl, .inl ⟨vs, .of hs, rr.len.symm⟩, q _ _ (.int _)⟩
  · cases e
    obtain ⟨x, rfl, h⟩ := rds1 r
    obtain ⟨a, vs, G, rfl, hs, rr⟩ := h.seqs
    exact ⟨_, _, rfl, .inr ⟨vs, hs, rr.len.symm⟩, q _ _ (.int _)⟩
  · cases e
    obtain ⟨x, rfl, h⟩ := rds1 r
    obtain ⟨a, vs, rfl, hs, rr⟩ := h.roS
    exact ⟨_, _, rfl, .inl ⟨vs, hs.l, rr.len.symm⟩, q _ _ (.int _)⟩
  · cases e
theorem cs_all {X : Cx} (hc : X.calm = true) : CS X (.builtin "all") (allD (·.all id)) := CS.of (cr_all hc) fun xs H Q ds z r e q => by
  unfold allD at e
  split at e
  · split at e
    · rename_i d ts e1
      cases e2 : blsOf ts with
      | none => rw [e2] at e; cases e
      | some bs =>
        rw [e2] at e; cases e
        obtain ⟨x, rfl, h⟩ := rds1 r
        obtain ⟨a, vs, rfl, hs, rr⟩ := h.items e1
        rw [rr.blss e2] at hs
        exact ⟨a, bs, rfl, hs, q _ _ (.bl _)⟩
    · cases e
  · cases e
theorem cs_any {X : Cx} (hc : X.calm = true) : CS X (.builtin "any") (allD (·.any id)) := CS.of (cr_any hc) fun xs H Q ds z r e q => by
  unfold allD at e
  split at e
  · split at e
    · rename_i d ts e1
      cases e2 : blsOf ts with
      | none => rw [e2] at e; cases e
      | some bs =>
        rw [e2] at e; cases e
        obtain ⟨x, rfl, h⟩ := rds1 r
        obtain ⟨a, vs, rfl, hs, rr⟩ := h.items e1
        rw [rr.blss e2] at hs
        exact ⟨a, bs, rfl, hs, q _ _ (.bl _)⟩
    · cases e
  · cases e
theorem cs_sum {X : Cx} (hc : X.calm = true) : CS X (.builtin "sum") sumD := CS.of (cr_sum hc) fun xs H Q ds z r e q => by
  unfold sumD at e
  split at e
  · split at e
    · rename_i d ts e1
      cases e2 : intsOf ts with
      | none => rw [e2] at e; cases e
      | some bs =>
        rw [e2] at e; cases e
        obtain ⟨x, rfl, h⟩ := rds1 r
        obtain ⟨a, vs, rfl, hs, rr⟩ := h.items e1
        rw [rr.ints e2] at hs
        exact ⟨a, bs, rfl, hs, q _ _ (.int _)⟩
    · cases e
  · cases e
theorem foldl_max (x : Int) : ∀ r : List Int, (r.foldl (fun a b => if b > a then b else a) x ∈ x :: r) ∧ ∀ y ∈ x :: r, y ≤ r.foldl (fun a b => if b > a then b else a) x
  | [] => ⟨by simp, by simp⟩
  | z :: r => by
    simp only [List.foldl_cons]
    obtain ⟨h1, h2⟩ := foldl_max (if z > x then z else x) r
    have h3 := h2 _ List.mem_cons_self
    generalize List.foldl (fun a b => if b > a then b else a) (if z > x then z else x) r = F at h1 h2 h3 ⊢
    refine ⟨?_, fun y hy => ?_⟩
    · rcases List.mem_cons.mp h1 with h1 | h1
      · rw [h1]; split <;> simp
      · exact List.mem_cons_of_mem _ (List.mem_cons_of_mem _ h1)
    · rcases List.mem_cons.mp hy with hy | hy
      · subst hy; split at h3 <;> omega
      · rcases List.mem_cons.mp hy with hy | hy
        · subst hy; split at h3 <;> omega
        · exact h2 _ (List.mem_cons_of_mem _ hy)
theorem foldl_min (x : Int) : ∀ r : List Int, (r.foldl (fun a b => if b < a then b else a) x ∈ x :: r) ∧ ∀ y ∈ x :: r, r.foldl (fun a b => if b < a then b else a) x ≤ y
  | [] => ⟨by simp, by simp⟩
  | z :: r => by
    simp only [List.foldl_cons]
    obtain ⟨h1, h2⟩ := foldl_min (if z < x then z else x) r
    have h3 := h2 _ List.mem_cons_self
    generalize List.foldl (fun a b => if b < a then b else a) (if z < x then z else x) r = F at h1 h2 h3 ⊢
    refine ⟨?_, fun y hy => ?_⟩
    · rcases List.mem_cons.mp h1 with h1 | h1
      · rw [h1]; split <;> simp
      · exact List.mem_cons_of_mem _ (List.mem_cons_of_mem _ h1)
    · rcases List.mem_cons.mp hy with hy | hy
      · subst hy; split at h3 <;> omega
      · rcases List.mem_cons.mp hy with hy | hy
        · subst hy; split at h3 <;> omega
        · exact h2 _ (List.mem_cons_of_mem _ hy)
def rMx2 (K : PySem.W.Frag) : List V → Hp → VK → Prop := fun xs H Q => (∃ i j, xs = [.int i, .int j] ∧ Q (.int (if j > i then j else i)) H) ∨ rMax K xs H Q
def rMn2 (K : PySem.W.Frag) : List V → Hp → VK → Prop := fun xs H Q => (∃ i j, xs = [.int i, .int j] ∧ Q (.int (if j < i then j else i)) H) ∨ rMin K xs H Q
theorem cs_max1 {X : Cx} (hc : X.calm = true) : CS X (.builtin "max") (mxD maxL) := CS.of (cr_max hc) fun xs H Q ds z r e q => by
  unfold mxD at e
  split at e
  · split at e
    · rename_i d ts e1
      cases e2 : intsOf ts with
      | none => rw [e2] at e; cases e
      | some bs =>
        rw [e2] at e
        obtain ⟨x, rfl, h⟩ := rds1 r
        obtain ⟨a, vs, rfl, hs, rr⟩ := h.items e1
        rw [rr.ints e2] at hs
        cases bs with
        | nil => cases e
        | cons b bs =>
          cases e
          refine ⟨a, b :: bs, rfl, hs, by simp, fun m h1 h2 => ?_⟩
          obtain ⟨h3, h4⟩ := foldl_max b bs
          have e3 : m = bs.foldl (fun a b => if b > a then b else a) b := Int.le_antisymm (h4 _ h1) (h2 _ h3)
          rw [e3]
          exact q _ _ (.int _)
    · cases e
  · cases e
theorem cs_min1 {X : Cx} (hc : X.calm = true) : CS X (.builtin "min") (mxD minL) := CS.of (cr_min hc) fun xs H Q ds z r e q => by
  unfold mxD at e
  split at e
  · split at e
    · rename_i d ts e1
      cases e2 : intsOf ts with
      | none => rw [e2] at e; cases e
      | some bs =>
        rw [e2] at e
        obtain ⟨x, rfl, h⟩ := rds1 r
        obtain ⟨a, vs, rfl, hs, rr⟩ := h.items e1
        rw [rr.ints e2] at hs
        cases bs with
        | nil => cases e
        | cons b bs =>
          cases e
          refine ⟨a, b :: bs, rfl, hs, by simp, fun m h1 h2 => ?_⟩
          obtain ⟨h3, h4⟩ := foldl_min b bs
          have e3 : m = bs.foldl (fun a b => if b < a then b else a) b := Int.le_antisymm (h2 _ h3) (h4 _ h1)
          rw [e3]
          exact q _ _ (.int _)
    · cases e
  · cases e
theorem cs_max2 {X : Cx} (hc : X.calm = true) : CS X (.builtin "max") max2D := CS.of (call_max2 hc) fun xs H Q ds z r e q => by
  unfold max2D at e
  split at e
  · cases e
    obtain ⟨x, y, rfl, hx, hy⟩ := rds2 r
    rw [hx.int, hy.int]
    exact ⟨_, _, rfl, q _ _ (.int _)⟩
  · cases e
theorem cs_min2 {X : Cx} (hc : X.calm = true) : CS X (.builtin "min") min2D := CS.of (call_min2 hc) fun xs H Q ds z r e q => by
  unfold min2D at e
  split at e
  · cases e
    obtain ⟨x, y, rfl, hx, hy⟩ := rds2 r
    rw [hx.int, hy.int]
    exact ⟨_, _, rfl, q _ _ (.int _)⟩
  · cases e
theorem cs_abs {X : Cx} : CS X (.builtin "abs") absD := CS.of call_abs fun xs H Q ds z r e q => by
  unfold absD at e
  split at e
  · cases e
    obtain ⟨x, rfl, hx⟩ := rds1 r
    rw [hx.int]
    exact ⟨_, rfl, q _ _ (.int _)⟩
  · cases e
theorem cs_int {X : Cx} : CS X (.type "int") intD := CS.of call_int1 fun xs H Q ds z r e q => by
  unfold intD at e
  split at e
  · cases e
    obtain ⟨x, rfl, hx⟩ := rds1 r
    rw [hx.int]
    exact .inl ⟨_, rfl, q _ _ (.int _)⟩
  · cases e
    obtain ⟨x, rfl, hx⟩ := rds1 r
    rw [hx.bl]
    exact .inr ⟨_, rfl, q _ _ (.int _)⟩
  · cases e
theorem cs_str {X : Cx} : CS X (.type "str") strD := CS.of call_str_int fun xs H Q ds z r e q => by
  unfold strD at e
  split at e
  · split at e
    · rename_i hl
      cases e
      obtain ⟨x, rfl, hx⟩ := rds1 r
      rw [hx.int]
      exact ⟨_, rfl, hl, q _ _ (.p (.str _))⟩
    · cases e
  · cases e
/-- tuple(x) -/
def rTupF (K : PySem.W.Frag) : List V → Hp → VK → Prop := fun xs H Q => ∃ p ys, xs = [.ref p] ∧ ((SqL K H p ys ∧ ∀ l (o : Obj), H l = none → o.dict = none → Q (.ref l) (upd H l (.frz o (.tup ys)))) ∨ (SqT K H p ys ∧ Q (.ref p) H))
theorem call_tupF {X : Cx} : CallR X (.type "tuple") (rTupF X.K) := by
  intro pins s σ H xs us Q I r ⟨p, ys, ex, h⟩
  subst ex
  rw [Vals.ref1 r]
  rcases h with ⟨hq, q⟩ | ⟨hq, q⟩
  · obtain ⟨its, rv, pl, hz⟩ := I.list hq
    refine call_tuple_list pl.isList (fun h1 k1 => ?_) (by rw [List.size_toArray, ← rv.length]; exact hz)
    have hg := Heap.get?_push_size h1 (o := { cls := .type "tuple", data := .seq its.toArray }) rfl
    have I1 : Inv X pins σ H { s with heap := h1 } := I.kept (t' := s.toks) k1
    exact ⟨.ref h1.objs.size, _, I1.laid (t' := s.toks) (o := .frz { cls := .type "tuple", data := .seq its.toArray } (.tup ys)) (fun b o e => Heap.get?_push_of_some _ e) (Nat.le_refl _) ⟨hg, hz, its, rv, ⟨_, hg, rfl, _, rfl⟩⟩, rfl, q _ _ (I1.hok.fresh (Nat.le_refl _)) rfl⟩
  · obtain ⟨its, rv, pl, _⟩ := I.tuple hq
    exact call_tuple_same pl ⟨.ref p, H, I, rfl, q⟩
theorem cs_tuple {X : Cx} : CS X (.type "tuple") tupleD := CS.of call_tupF fun xs H Q ds z r e q => by
  unfold tupleD at e
  split at e
  · rename_i d
    cases e1 : seqT d with
    | none => rw [e1] at e; cases e
    | some ts =>
      rw [e1] at e; cases e
      obtain ⟨x, rfl, hx⟩ := rds1 r
      unfold seqT at e1
      split at e1
      · cases e1
        obtain ⟨a, vs, rfl, hs, rr⟩ := hx.tupD
        exact ⟨a, vs, rfl, .inr ⟨hs.t, q _ _ (.p (.tup hs rr))⟩⟩
      · obtain ⟨a, vs, rfl, hs, rr⟩ := hx.items e1
        exact ⟨a, vs, rfl, .inl ⟨hs, fun l o hl ho => q _ _ (.tup hl ho rr)⟩⟩
  · cases e
theorem cs_list {X : Cx} : CS X (.type "list") listD := CS.of call_list_of fun xs H Q ds z r e q => by
  unfold listD at e
  split at e
  · rename_i d
    cases e1 : seqT d with
    | none => rw [e1] at e; cases e
    | some ts =>
      rw [e1] at e; cases e
      obtain ⟨x, rfl, hx⟩ := rds1 r
      obtain ⟨a, vs, rfl, hs, rr⟩ := hx.seq e1
      exact ⟨a, vs, rfl, hs, fun l hl => q _ _ (.list hl rr)⟩
  · cases e

/-! ### isinstance -/
theorem SqL.ty {a : Addr} {vs : List V} (h : SqL K H a vs) : TyX K H (.ref a) (.type "list") := by
  rcases h with (h | ⟨o, h⟩) | ⟨o, its, n, h1, h2, _⟩
  · exact .base (.lst h)
  · exact .base (.frz h)
  · exact .kList h1 h2
theorem SqT.ty {a : Addr} {vs : List V} (h : SqT K H a vs) : TyX K H (.ref a) (.type "tuple") := by
  rcases h with (h | ⟨o, h⟩) | ⟨o, its, n, h1, h2, _⟩
  · exact .base (.tup h)
  · exact .fTuple h
  · exact .kTuple h1 h2
theorem tyOf {t : String} (h : Rd K H x d) (e : tyName d = some t) : TyX K H x (.type t) := by
  cases d with
  | p s =>
    cases s with
    | non => cases e; rw [h.non]; exact .base .non
    | bl b => cases e; rw [h.bl]; exact .base (.bl b)
    | int i => cases e; rw [h.int]; exact .base (.int i)
    | str z => cases e; rw [h.str]; exact .base (.str z)
    | tup ts => cases e; obtain ⟨a, vs, rfl, hs, _⟩ := h.tup; exact SqT.ty hs
  | l ds => cases e; obtain ⟨a, vs, G, rfl, hs, _⟩ := h.lst; exact .base (.lst hs)
  | u ds => cases e; obtain ⟨a, vs, G, rfl, hs, _⟩ := h.seqs; exact SqT.ty hs
  | ro ts => cases e; obtain ⟨a, vs, rfl, hs, _⟩ := h.roS; exact SqL.ty hs.l
  | c ks vs => exact h.notC.elim
def isiTys : List String := ["NoneType", "bool", "int", "str", "tuple", "list", "dict"]
def isiNms : List String := ["int", "bool", "str", "tuple", "list", "dict"]
theorem isi_all : (isiTys.all fun t => isiNms.all fun n => kitB t n == isiB t n) = true := by decide +kernel
theorem isi_kit {t n : String} {b : Bool} (ht : t ∈ isiTys) (h : isiB t n = some b) : kitB t n = some b := by
  have hn : n ∈ isiNms := by
    unfold isiB at h
    split at h
    · rename_i c
      simp only [isiNms, List.mem_cons, List.not_mem_nil, or_false]
      exact c
    · cases h
  have := List.all_eq_true.mp (List.all_eq_true.mp isi_all t ht) n hn
  rw [eq_of_beq this]; exact h
theorem tyName_mem {t : String} (e : tyName d = some t) : t ∈ isiTys := by
  unfold tyName at e
  split at e <;> cases e <;> simp [isiTys]
/-- isinstance(x, n): the class n is a value -/
def rIsiN (K : PySem.W.Frag) (n : String) : List V → Hp → VK → Prop := fun xs H Q => ∃ x d z, xs = [x, .ty n] ∧ Rd K H x d ∧ isiD n [d] = some z ∧ Meet K H z Q
theorem cs_isi {X : Cx} {n : String} : CallR X (.builtin "isinstance") (rIsiN X.K n) := CallR.mono call_isi fun xs H Q ⟨x, d, z, ex, h, e, q⟩ => by
  unfold isiD at e
  cases e1 : tyName d with
  | none => simp only [e1] at e; cases e
  | some t =>
    simp only [e1] at e
    cases e2 : isiB t n with
    | none => rw [e2] at e; cases e
    | some b =>
      rw [e2] at e; cases e
      exact ⟨x, .ty n, _, _, b, ex, .ty n, tyOf h e1, kit_ty (isi_kit (tyName_mem e1) e2), q _ _ (.bl _)⟩

/-! ### sorted, of a list or a tuple -/
theorem sortI_perm : ∀ is : List Int, (sortI is).Perm is
  | [] => .nil
  | x :: r => by
    have h : ∀ l : List Int, (insI x l).Perm (x :: l) := fun l => by
      induction l with
      | nil => exact .refl _
      | cons y l ih =>
        unfold insI
        split
        · exact .refl _
        · exact ((ih.cons y).trans (.swap x y l))
    exact (h _).trans ((sortI_perm r).cons x)
theorem sortI_sorted : ∀ is : List Int, (sortI is).Pairwise (· ≤ ·)
  | [] => .nil
  | x :: r => by
    have h : ∀ l : List Int, l.Pairwise (· ≤ ·) → (insI x l).Pairwise (· ≤ ·) := fun l hl => by
      induction l with
      | nil => simp [insI]
      | cons y l ih =>
        rw [List.pairwise_cons] at hl
        unfold insI
        split
        · rename_i hxy
          refine List.pairwise_cons.mpr ⟨fun z hz => ?_, List.pairwise_cons.mpr hl⟩
          rcases List.mem_cons.mp hz with rfl | hz
          · exact hxy
          · exact Int.le_trans hxy (hl.1 z hz)
        · rename_i hxy
          refine List.pairwise_cons.mpr ⟨fun z hz => ?_, ih hl.2⟩
          have hm : z ∈ x :: l := by
            have hp : ∀ l : List Int, (insI x l).Perm (x :: l) := fun l => by
              induction l with
              | nil => exact .refl _
              | cons y l ih =>
                unfold insI
                split
                · exact .refl _
                · exact ((ih.cons y).trans (.swap x y l))
            exact (hp l).mem_iff.mp hz
          rcases List.mem_cons.mp hm with rfl | hm
          · omega
          · exact hl.1 z hm
    exact h _ (sortI_sorted r)
theorem sorted_uniq {xs ys : List Int} (h1 : xs.Pairwise (· ≤ ·)) (h2 : ys.Pairwise (· ≤ ·)) (p : xs.Perm ys) : xs = ys :=
  p.eq_of_pairwise (le := fun a b => a ≤ b) (fun a b _ _ h h' => Int.le_antisymm h h') h1 h2
/-- a list or a tuple, as an object -/
def SeqObj (h : Heap) (l : Addr) (vs : List Value) : Prop := ∃ (T : String) (o : Obj) (n : Nat), (T = "list" ∨ T = "tuple") ∧ h.get? l = some o ∧ o.cls = .type T ∧ o.data = .seq vs.toArray n
theorem sorted_seq {prog : Program} {w : World} {A : Around} {E : Value → Shared → Prop} {s : Shared} {l : Addr} {vs : List Value} {ns : List Int} {Q : Value → Shared → Prop} (hl : SeqObj s.heap l vs) (hz : vs.length ≤ sizeLine) (hi : IntsAre vs ns)
    (h : ∀ (h1 h' : Heap) (out : List Value) (n : Nat), (∀ b o, s.heap.get? b = some o → h1.get? b = some o) → (∀ b o, h1.get? b = some o → h'.get? b = some o) → h'.get? h1.objs.size = some (seqObj "list" out.toArray n) → IntsAre out (out.map SrtO.iv) → (out.map SrtO.iv).Perm ns → (out.map SrtO.iv).Pairwise (· ≤ ·) → Q (.ref h1.objs.size) { s with heap := h' }) :
    wpAny (model prog w) A (call (.builtin "sorted") [.ref l]) Q E s := by
  obtain ⟨T, o, n, hT, ho, hc, hd⟩ := hl
  refine Calls.call_function_entry kind_sorted plain_sorted entry_sorted (args_sorted1 _) ?_
  unfold Builtin.«sorted»
  refine wpAny_bind (m := checkCount "sorted" 1 1 _) (wpAny_pure ?_)
  refine wpAny_bind (wpAny_collect_seq l hT ho hc hd (fun h1 k1 => ?_) (by rw [List.size_toArray]; exact hz))
  have e : vs.toArray.toList = vs := rfl
  rw [e]
  refine wpAny_bind (wpAny_newList ?_ hz)
  have hoL : (h1.push (seqObj "list" vs.toArray 0)).get? h1.objs.size = some (seqObj "list" vs.toArray 0) := Heap.get?_push_size _ rfl
  show wpAny _ _ _ _ _ { s with heap := h1.push (seqObj "list" vs.toArray 0) }
  refine wpAny_bind (wpAny_holding (wpAny_call_entry slot_list_sort ⟨_, hoL, rfl⟩ entry_list_sort (SrtO.list_sort_ord (s := { s with heap := h1.push (seqObj "list" vs.toArray 0) }) SrtO.swo_int hoL hz (fun h2 => SrtO.ints_sortable hi h2) fun out hs hb => ⟨_, rfl, ?_⟩) (args_list_sort _)))
  obtain ⟨q1, q2, q3⟩ := SrtO.ints_out hi hs hb
  obtain ⟨ep, he'⟩ := PyProof.Rows.sortedHeap_at (vs := vs) (out := out.toArray) hoL
  refine wpAny_pure ⟨_, rfl, h h1 _ out ep k1 (fun b ob e1 => ?_) he' q1 q2 q3⟩
  have hb' : b ≠ h1.objs.size := Nat.ne_of_lt (Heap.lt_size e1)
  have e2 : (h1.push (seqObj "list" vs.toArray 0)).get? b = some ob := Heap.get?_push_of_some _ e1
  exact (PyProof.Rows.sortedHeap_old hb' (Heap.lt_size e2)).trans e2
theorem vals_ints {us : List Value} {is : List Int} (r : Vals (is.map V.int) us) : IntsAre us is := r.ints
theorem cs_sorted {X : Cx} : CS X (.builtin "sorted") sortedD := by
  intro pins s σ H xs us Q I r ⟨ds, z, rr, e, q⟩
  unfold sortedD at e
  split at e
  · rename_i d
    split at e
    · rename_i ts e1
      split at e
      · rename_i is e2
        · cases e
          obtain ⟨x, rfl, hx⟩ := rds1 rr
          obtain ⟨a, vs, rfl, hs, rt⟩ := hx.seq e1
          rw [rt.ints e2] at hs
          rw [Vals.ref1 r]
          obtain ⟨its, rv, so, hz, hz'⟩ : ∃ its : List Value, Vals (is.map V.int) its ∧ SeqObj s.heap a its ∧ its.length ≤ sizeLine ∧ (is.map V.int).length ≤ sizeLine := by
            rcases hs with hs | hs
            · obtain ⟨its, rv, p, hz⟩ := I.list hs
              obtain ⟨o, h1, h2, n, h3⟩ := p.isList
              exact ⟨its, rv, ⟨"list", o, n, .inl rfl, h1, h2, h3⟩, by rw [← rv.length]; exact hz, hz⟩
            · obtain ⟨its, rv, p, hz⟩ := I.tuple hs
              obtain ⟨o, h1, h2, n, h3⟩ := p
              exact ⟨its, rv, ⟨"tuple", o, n, .inr rfl, h1, h2, h3⟩, by rw [← rv.length]; exact hz, hz⟩
          refine sorted_seq so hz (vals_ints rv) fun h1 h' out n k1 k2 he k3 k4 k5 => ?_
          have I1 : Inv X pins σ H { s with heap := h1 } := I.kept (t' := s.toks) k1
          have e3 : out.map SrtO.iv = sortI is := sorted_uniq k5 (sortI_sorted is) (k4.trans (sortI_perm is).symm)
          have hlen : ((sortI is).map V.int).length ≤ sizeLine := by
            rw [List.length_map, (sortI_perm is).length_eq]
            rw [List.length_map] at hz'
            exact hz'
          refine ⟨.ref _, upd H h1.objs.size (.lst ((sortI is).map V.int)), I1.laid (t' := s.toks) (h' := h') k2 (Nat.le_refl _) ⟨hlen, out, n, by rw [← e3]; exact vals_of_ints k3, he⟩, rfl, q _ _ (.list (I1.hok.fresh (Nat.le_refl _)) (RTs.of_ints _))⟩
      · cases e
    · cases e
  · cases e

/-! ### subscripts -/
theorem RTs.at {vs : List V} {ts : List T} {i : Int} {t : T} (r : RTs K H vs ts) (e : atI ts i = some t) : ∃ v, atI vs i = some v ∧ RT K H v t := by
  unfold atI at e ⊢
  rw [r.len]
  cases e2 : ixN ts.length i with
  | none => rw [e2] at e; cases e
  | some j => rw [e2] at e; exact r.get e
theorem OWs.at {vs : List V} {ts : List D} {G : List Addr} {i : Int} {t : D} (r : OWs K H vs ts G) (e : atI ts i = some t) : ∃ v G', atI vs i = some v ∧ OW K H v t G' ∧ ∀ a ∈ G', a ∈ G := by
  unfold atI at e ⊢
  rw [r.len]
  cases e2 : ixN ts.length i with
  | none => rw [e2] at e; cases e
  | some j => rw [e2] at e; exact r.get e
theorem s_item (h : itemD [d, e] = some z) (hx : Rd K H x d) (hy : Rd K H y e) (q : Meet K H z Q) : rIx K x y H Q := by
  unfold itemD at h
  split at h
  · rename_i ts i heq
    cases heq
    cases e1 : atI ts i with
    | none => rw [e1] at h; cases h
    | some t =>
      rw [e1] at h; cases h
      obtain ⟨a, vs, rfl, hs, rr⟩ := hx.tup
      rw [hy.int]
      obtain ⟨v, h1, h2⟩ := rr.at e1
      exact .inr (.inl ⟨a, vs, i, v, rfl, rfl, hs, h1, q _ _ (.p h2)⟩)
  · rename_i s i heq
    cases heq
    split at h
    · rename_i hl
      cases e1 : atI s.cps.toList i with
      | none => rw [e1] at h; cases h
      | some c =>
        rw [e1] at h; cases h
        rw [hx.str, hy.int]
        exact .inr (.inr ⟨s, i, c, rfl, rfl, by rw [← LIM_line]; exact hl, e1, q _ _ (.p (.str _))⟩)
    · cases h
  · rename_i ds i heq
    cases heq
    split at h
    · rename_i t e1
      cases h
      obtain ⟨a, vs, G, rfl, hs, rr⟩ := hx.lst
      rw [hy.int]
      obtain ⟨v, G', h1, h2, _⟩ := rr.at e1
      cases h2 with
      | p h2 => exact .inl ⟨a, vs, i, v, rfl, rfl, .of hs, h1, q _ _ (.p h2)⟩
    · cases h
  · rename_i ts i heq
    cases heq
    cases e1 : atI ts i with
    | none => rw [e1] at h; cases h
    | some t =>
      rw [e1] at h; cases h
      obtain ⟨a, vs, rfl, hs, rr⟩ := hx.roS
      rw [hy.int]
      obtain ⟨v, h1, h2⟩ := rr.at e1
      exact .inl ⟨a, vs, i, v, rfl, rfl, hs.l, h1, q _ _ (.p h2)⟩
  · cases h

/-! ### slices -/
def rSlF (K : PySem.W.Frag) : V → Option Int → Option Int → Hp → VK → Prop := fun x lo hi H Q => ∃ a xs, x = .ref a ∧ SqT K H a xs ∧
  (HT.sIx xs.length 0 lo = 0 ∧ HT.sIx xs.length xs.length hi = xs.length → Q (.ref a) H) ∧ (¬ (HT.sIx xs.length 0 lo = 0 ∧ HT.sIx xs.length xs.length hi = xs.length) → ∀ p (o : Obj), H p = none → o.dict = none → Q (.ref p) (upd H p (.frz o (.tup (cutT xs lo hi)))))
theorem sl_tupF {X : Cx} : SlR X (rSlF X.K) := by
  intro pins s σ H x v vl vu lo hi sl Q I rx hs pl pu ⟨a, xs, ex, hx, q1, q2⟩
  subst ex
  cases rx
  obtain ⟨its, r, ht, hz⟩ := I.tuple hx
  have hlen : its.toArray.size = xs.length := by rw [List.size_toArray]; exact r.length.symm
  refine ⟨"tuple", _, PyProof.Rows.slot_tuple_getitem.lookup, ht.typeIs, ?_⟩
  by_cases hw : HT.sIx xs.length 0 lo = 0 ∧ HT.sIx xs.length xs.length hi = xs.length
  · exact getItem_tuple_whole ht hs pl pu (by rw [hlen]; exact hw) ⟨.ref a, H, I, rfl, q1 hw⟩
  · refine HT.getItem_tuple_cut ht hs pl pu (by rw [hlen]; exact hw) ?_ (by rw [hlen]; exact hz)
    rw [hlen]
    have hg := Heap.get?_push_size s.heap (o := { cls := .type "tuple", data := .seq ((its.toArray.toList.drop (HT.sIx xs.length 0 lo)).take (HT.sIx xs.length xs.length hi - HT.sIx xs.length 0 lo)).toArray }) rfl
    refine ⟨.ref s.heap.objs.size, _, I.laid (t' := s.toks) (o := .frz { cls := .type "tuple", data := .seq ((its.toArray.toList.drop (HT.sIx xs.length 0 lo)).take (HT.sIx xs.length xs.length hi - HT.sIx xs.length 0 lo)).toArray } (.tup (cutT xs lo hi))) (fun b ob q => Heap.get?_push_of_some _ q) (Nat.le_refl _) ⟨hg, ?_, _, (r.drop _).take _, ⟨_, hg, rfl, _, rfl⟩⟩, rfl, q2 hw _ _ (I.hok.fresh (Nat.le_refl _)) rfl⟩
    exact Nat.le_trans (cutV_length xs lo hi) hz
theorem RTs.drop {vs : List V} {ts : List T} : ∀ n, RTs K H vs ts → RTs K H (vs.drop n) (ts.drop n)
  | 0, h => h
  | _ + 1, .nil => .nil
  | n + 1, .cons _ h => RTs.drop n h
theorem RTs.take {vs : List V} {ts : List T} : ∀ n, RTs K H vs ts → RTs K H (vs.take n) (ts.take n)
  | 0, _ => .nil
  | _ + 1, .nil => .nil
  | n + 1, .cons h hs => .cons h (RTs.take n hs)
theorem RTs.cut {vs : List V} {ts : List T} {lo hi : Option Int} (r : RTs K H vs ts) : RTs K H (cutT vs lo hi) (cutT ts lo hi) := by
  unfold cutT
  rw [r.len]
  exact (r.drop _).take _
theorem cutT_whole {α : Type} {xs : List α} {lo hi : Option Int} (h : HT.sIx xs.length 0 lo = 0 ∧ HT.sIx xs.length xs.length hi = xs.length) : cutT xs lo hi = xs := by
  unfold cutT
  rw [h.1, h.2]
  simp
def rSl (K : PySem.W.Frag) : V → Option Int → Option Int → Hp → VK → Prop := fun x lo hi H Q => rSlL K x lo hi H Q ∨ rSlF K x lo hi H Q
theorem slR {X : Cx} : SlR X (rSl X.K) := sl_list.or sl_tupF
theorem s_slice {lo hi : Option Int} (h : sliceV d lo hi = some z) (hx : Rd K H x d) (q : Meet K H z Q) : rSl K x lo hi H Q := by
  unfold sliceV at h
  split at h
  · rename_i ts
    cases h
    obtain ⟨a, vs, rfl, hs, rr⟩ := hx.tupD
    refine .inr ⟨a, vs, rfl, hs.t, fun w => ?_, fun w p o hp ho => q _ _ (.tup hp ho rr.cut)⟩
    rw [rr.len] at w
    refine q _ _ (.p ?_)
    rw [cutT_whole w]
    exact .tup hs rr
  · rename_i d' hn
    cases e1 : items d with
    | none => rw [e1] at h; cases h
    | some ts =>
      rw [e1] at h; cases h
      obtain ⟨a, vs, rfl, hs, rr⟩ := hx.items e1
      exact .inl ⟨a, vs, rfl, hs, fun p hp => q _ _ (.list hp rr.cut)⟩
end
end PF

set_option Elab.async false
set_option linter.all false
set_option maxRecDepth 100000
/-! PF8: the names' places, and what an expression's end is -/
namespace PF
open PySem PySem.Spec PyProof.Rows L2

/-- the places hold what is said; a lent thing stands only where β allows it -/
inductive EO (K : PySem.W.Frag) (H : Hp) : List Bool → L2.St → List S → List Addr → Prop
  | nil : EO K H [] [] [] []
  | no {b : Bool} {x : Option V} {β : List Bool} {σ : L2.St} {ρ : List S} {F : List Addr} : EO K H β σ ρ F → EO K H (b :: β) (x :: σ) (.no :: ρ) F
  | val {b : Bool} {v : V} {d : D} {β : List Bool} {σ : L2.St} {ρ : List S} {G F : List Addr} : OW K H v d G → EO K H β σ ρ F → EO K H (b :: β) (some v :: σ) (.val d :: ρ) (G ++ F)
  | bor {v : V} {d : D} {β : List Bool} {σ : L2.St} {ρ : List S} {G F : List Addr} : OW K H v d G → EO K H β σ ρ F → EO K H (true :: β) (some v :: σ) (.bor d :: ρ) F
def noB (β : List Bool) : Prop := ∀ b ∈ β, b = false
section
variable {K : PySem.W.Frag} {H H' : Hp} {β : List Bool} {σ : L2.St} {ρ : List S} {F : List Addr}
theorem EO.len (h : EO K H β σ ρ F) : ρ.length = σ.length := by
  induction h with
  | nil => rfl
  | no _ ih => exact congrArg (· + 1) ih
  | val _ _ ih => exact congrArg (· + 1) ih
  | bor _ _ ih => exact congrArg (· + 1) ih
theorem EO.lenB (h : EO K H β σ ρ F) : β.length = σ.length := by
  induction h with
  | nil => rfl
  | no _ ih => exact congrArg (· + 1) ih
  | val _ _ ih => exact congrArg (· + 1) ih
  | bor _ _ ih => exact congrArg (· + 1) ih
theorem EO.mt (h : EO K H β σ ρ F) : MutF H F := by
  induction h with
  | nil => exact .nil
  | no _ ih => exact ih
  | val o _ ih => exact o.mt.app ih
  | bor _ _ ih => exact ih
theorem EO.fr0 (f : Fr H H' []) (h : EO K H β σ ρ F) : EO K H' β σ ρ F := by
  induction h with
  | nil => exact .nil
  | no _ ih => exact .no ih
  | val o _ ih => exact .val (o.fr f .nil fun _ _ z => nomatch z) ih
  | bor o _ ih => exact .bor (o.fr f .nil fun _ _ z => nomatch z) ih
theorem EO.fr {F0 : List Addr} (f : Fr H H' F0) (m : MutF H F0) (h : EO K H β σ ρ F) (nb : noB β) (ap : ∀ a ∈ F, a ∉ F0) : EO K H' β σ ρ F := by
  induction h with
  | nil => exact .nil
  | no _ ih => exact .no (ih (fun b hb => nb b (List.mem_cons_of_mem _ hb)) ap)
  | val o _ ih => exact .val (o.fr f m fun a ha => ap a (List.mem_append_left _ ha)) (ih (fun b hb => nb b (List.mem_cons_of_mem _ hb)) fun a ha => ap a (List.mem_append_right _ ha))
  | bor o _ ih => exact absurd (nb true List.mem_cons_self) (by decide)
/-- a place's value, and the places without it -/
theorem EO.val_at : ∀ {β : List Bool} {σ : L2.St} {ρ : List S} {F : List Addr} {i : Nat} {d : D}, EO K H β σ ρ F → look ρ i = .val d →
    ∃ v G F', σ[i]? = some (some v) ∧ OW K H v d G ∧ EO K H β σ (put ρ i .no) F' ∧ ∀ a : Nat, List.count (α := Nat) a F = List.count a G + List.count a F'
  | _, _, _, _, _, _, .nil, e => by cases e
  | _, _, _, _, 0, d, .val o h, e => by
    have e' : S.val _ = S.val d := e
    cases e'
    exact ⟨_, _, _, rfl, o, .no h, fun a => ct_app a _ _⟩
  | _, _, _, _, 0, _, .no h, e => by cases e
  | _, _, _, _, 0, _, .bor o h, e => by cases e
  | _, _, _, _, i + 1, d, .no h, e => by
    obtain ⟨v, G, F', h1, h2, h3, h4⟩ := EO.val_at (i := i) h e
    exact ⟨v, G, F', by simpa using h1, h2, .no h3, h4⟩
  | _, _, _, _, i + 1, d, .val (G := G0) o h, e => by
    obtain ⟨v, G, F', h1, h2, h3, h4⟩ := EO.val_at (i := i) h e
    refine ⟨v, G, G0 ++ F', by simpa using h1, h2, .val o h3, fun a => ?_⟩
    rw [ct_app, ct_app, h4 a]
    omega
  | _, _, _, _, i + 1, d, .bor o h, e => by
    obtain ⟨v, G, F', h1, h2, h3, h4⟩ := EO.val_at (i := i) h e
    exact ⟨v, G, F', by simpa using h1, h2, .bor o h3, h4⟩
theorem EO.bor_at : ∀ {β : List Bool} {σ : L2.St} {ρ : List S} {F : List Addr} {i : Nat} {d : D}, EO K H β σ ρ F → look ρ i = .bor d →
    ∃ v G, σ[i]? = some (some v) ∧ OW K H v d G ∧ β[i]? = some true
  | _, _, _, _, _, _, .nil, e => by cases e
  | _, _, _, _, 0, d, .val o h, e => by cases e
  | _, _, _, _, 0, _, .no h, e => by cases e
  | _, _, _, _, 0, d, .bor o h, e => by
    have e' : S.bor _ = S.bor d := e
    cases e'
    exact ⟨_, _, rfl, o, rfl⟩
  | _, _, _, _, i + 1, d, .no h, e => by
    obtain ⟨v, G, h1, h2, h3⟩ := EO.bor_at (i := i) h e
    exact ⟨v, G, by simpa using h1, h2, by simpa using h3⟩
  | _, _, _, _, i + 1, d, .val o h, e => by
    obtain ⟨v, G, h1, h2, h3⟩ := EO.bor_at (i := i) h e
    exact ⟨v, G, by simpa using h1, h2, by simpa using h3⟩
  | _, _, _, _, i + 1, d, .bor o h, e => by
    obtain ⟨v, G, h1, h2, h3⟩ := EO.bor_at (i := i) h e
    exact ⟨v, G, by simpa using h1, h2, by simpa using h3⟩
/-- a place emptied; its value may be any -/
theorem EO.no_at : ∀ {β : List Bool} {σ σ' : L2.St} {ρ : List S} {F : List Addr} (i : Nat), EO K H β σ ρ F → σ'.length = σ.length → (∀ j, j ≠ i → σ'[j]? = σ[j]?) → ∃ F', Sb F' F ∧ EO K H β σ' (put ρ i .no) F'
  | _, _, [], _, _, _, .nil, _, _ => ⟨[], Sb.refl _, .nil⟩
  | _, _, _ :: _, _, _, _, .nil, e, _ => by cases e
  | _, _, [], _, _, _, .no h, e, _ => by cases e
  | _, _, [], _, _, _, .val _ h, e, _ => by cases e
  | _, _, [], _, _, _, .bor _ h, e, _ => by cases e
  | _, _, y :: σ', _, _, 0, .no h, e, k => by
    have es : σ' = _ := List.ext_getElem? fun j => by simpa using k (j + 1) (by omega)
    subst es
    exact ⟨_, Sb.refl _, .no h⟩
  | _, _, y :: σ', _, _, 0, .val o h, e, k => by
    have es : σ' = _ := List.ext_getElem? fun j => by simpa using k (j + 1) (by omega)
    subst es
    exact ⟨_, fun a => by rw [ct_app]; omega, .no h⟩
  | _, _, y :: σ', _, _, 0, .bor o h, e, k => by
    have es : σ' = _ := List.ext_getElem? fun j => by simpa using k (j + 1) (by omega)
    subst es
    exact ⟨_, Sb.refl _, .no h⟩
  | _, _, y :: σ', _, _, i + 1, .no h, e, k => by
    obtain ⟨F', h1, h2⟩ := EO.no_at (σ' := σ') i h (by simpa using e) fun j hj => by simpa using k (j + 1) (by omega)
    exact ⟨F', h1, .no h2⟩
  | _, _, y :: σ', _, _, i + 1, .val (v := v0) o h, e, k => by
    obtain ⟨F', h1, h2⟩ := EO.no_at (σ' := σ') i h (by simpa using e) fun j hj => by simpa using k (j + 1) (by omega)
    have e0 : y = some v0 := by simpa using k 0 (by omega)
    subst e0
    exact ⟨_, fun a => by rw [ct_app, ct_app]; have := h1 a; omega, .val o h2⟩
  | _, _, y :: σ', _, _, i + 1, .bor (v := v0) o h, e, k => by
    obtain ⟨F', h1, h2⟩ := EO.no_at (σ' := σ') i h (by simpa using e) fun j hj => by simpa using k (j + 1) (by omega)
    have e0 : y = some v0 := by simpa using k 0 (by omega)
    subst e0
    exact ⟨_, h1, .bor o h2⟩
theorem put_put (i : Nat) (a b : S) : ∀ ρ : List S, put (put ρ i a) i b = put ρ i b := by
  induction i with
  | zero => intro ρ; cases ρ <;> rfl
  | succ i ih =>
    intro ρ
    cases ρ with
    | nil => rfl
    | cons s r => exact congrArg (s :: ·) (ih r)
/-- an empty place filled -/
theorem EO.fill : ∀ {β : List Bool} {σ : L2.St} {ρ : List S} {F G : List Addr} {i : Nat} {v : V} {d : D}, EO K H β σ ρ F → look ρ i = .no → σ[i]? = some (some v) → OW K H v d G →
    ∃ F', (∀ a : Nat, List.count (α := Nat) a F' = List.count a F + List.count a G) ∧ EO K H β σ (put ρ i (.val d)) F'
  | _, _, _, _, _, _, _, _, .nil, _, e, _ => by simp at e
  | _, _, _, _, _, 0, _, _, .val _ _, e, _, _ => by cases e
  | _, _, _, _, _, 0, _, _, .bor _ _, e, _, _ => by cases e
  | _, _, _, _, G, 0, v, d, .no (x := x) h, _, e, o => by
    have e' : x = some v := by simpa using e
    subst e'
    exact ⟨_, fun a => by rw [ct_app]; omega, .val o h⟩
  | _, _, _, _, _, i + 1, _, _, .no h, e1, e2, o => by
    obtain ⟨F', h1, h2⟩ := EO.fill (i := i) h e1 (by simpa using e2) o
    exact ⟨F', h1, .no h2⟩
  | _, _, _, _, _, i + 1, _, _, .val o' h, e1, e2, o => by
    obtain ⟨F', h1, h2⟩ := EO.fill (i := i) h e1 (by simpa using e2) o
    exact ⟨_, fun a => by rw [ct_app, ct_app, h1 a]; omega, .val o' h2⟩
  | _, _, _, _, _, i + 1, _, _, .bor o' h, e1, e2, o => by
    obtain ⟨F', h1, h2⟩ := EO.fill (i := i) h e1 (by simpa using e2) o
    exact ⟨F', h1, .bor o' h2⟩
theorem EO.fillB : ∀ {β : List Bool} {σ : L2.St} {ρ : List S} {F G : List Addr} {i : Nat} {v : V} {d : D}, EO K H β σ ρ F → look ρ i = .no → σ[i]? = some (some v) → β[i]? = some true → OW K H v d G →
    EO K H β σ (put ρ i (.bor d)) F
  | _, _, _, _, _, _, _, _, .nil, _, e, _, _ => by simp at e
  | _, _, _, _, _, 0, _, _, .val _ _, e, _, _, _ => by cases e
  | _, _, _, _, _, 0, _, _, .bor _ _, e, _, _, _ => by cases e
  | _, _, _, _, G, 0, v, d, .no (b := b) (x := x) h, _, e, eb, o => by
    have e' : x = some v := by simpa using e
    have e2 : b = true := by simpa using eb
    subst e' e2
    exact .bor o h
  | _, _, _, _, _, i + 1, _, _, .no h, e1, e2, eb, o => .no (EO.fillB (i := i) h e1 (by simpa using e2) (by simpa using eb) o)
  | _, _, _, _, _, i + 1, _, _, .val o' h, e1, e2, eb, o => .val o' (EO.fillB (i := i) h e1 (by simpa using e2) (by simpa using eb) o)
  | _, _, _, _, _, i + 1, _, _, .bor o' h, e1, e2, eb, o => .bor o' (EO.fillB (i := i) h e1 (by simpa using e2) (by simpa using eb) o)
theorem look_put : ∀ (ρ : List S) (i : Nat) (s : S), i < ρ.length → look (put ρ i s) i = s
  | [], _, _, h => by simp at h
  | _ :: _, 0, _, _ => rfl
  | _ :: r, i + 1, s, h => look_put r i s (by simpa using h)
theorem look_put_ne : ∀ (ρ : List S) {i j : Nat} (s : S), j ≠ i → look (put ρ i s) j = look ρ j
  | [], _, _, _, _ => rfl
  | _ :: _, 0, 0, _, h => absurd rfl h
  | _ :: _, 0, _ + 1, _, _ => rfl
  | _ :: _, _ + 1, 0, _, _ => rfl
  | _ :: r, i + 1, j + 1, s, h => look_put_ne r s (by omega)
/-- a name stored -/
theorem EO.store {G : List Addr} {i : Nat} {v : V} {d : D} (h : EO K H β σ ρ F) (hi : i < σ.length) (o : OW K H v d G) : ∃ F', Sb F' (F ++ G) ∧ EO K H β (σ.set i (some v)) (put ρ i (.val d)) F' := by
  obtain ⟨F1, h1, h2⟩ := EO.no_at (σ' := σ.set i (some v)) i h (by simp) fun j hj => by rw [List.getElem?_set_ne (Ne.symm hj)]
  obtain ⟨F2, h3, h4⟩ := EO.fill (i := i) (v := v) h2 (look_put _ _ _ (by rw [h.len]; exact hi)) (by rw [List.getElem?_set_self hi]) o
  rw [put_put] at h4
  exact ⟨F2, fun a => by rw [h3 a, ct_app]; have := h1 a; omega, h4⟩
theorem EO.storeB {G : List Addr} {i : Nat} {v : V} {d : D} (h : EO K H β σ ρ F) (hi : i < σ.length) (hb : β[i]? = some true) (o : OW K H v d G) : ∃ F', Sb F' F ∧ EO K H β (σ.set i (some v)) (put ρ i (.bor d)) F' := by
  obtain ⟨F1, h1, h2⟩ := EO.no_at (σ' := σ.set i (some v)) i h (by simp) fun j hj => by rw [List.getElem?_set_ne (Ne.symm hj)]
  have h4 := EO.fillB (i := i) (v := v) h2 (look_put _ _ _ (by rw [h.len]; exact hi)) (by rw [List.getElem?_set_self hi]) hb o
  rw [put_put] at h4
  exact ⟨F1, h1, h4⟩
/-- places emptied -/
theorem EO.kill : ∀ (is : List Nat) {σ' : L2.St}, EO K H β σ ρ F → σ'.length = σ.length → (∀ j, j ∉ is → σ'[j]? = σ[j]?) → ∃ F', Sb F' F ∧ EO K H β σ' (PF.kill ρ is) F'
  | [], σ', h, hl, k => by
    have e : σ' = σ := List.ext_getElem? fun j => k j (by simp)
    subst e
    exact ⟨F, Sb.refl _, h⟩
  | i :: is, σ', h, hl, k => by
    have hk : ∀ j, j ∉ is → (if j = i then σ[i]? else σ'[j]?) = σ[j]? := fun j hj => by
      split
      · rename_i e; rw [e]
      · rename_i e; exact k j (by simp [hj, e])
    by_cases hi : i < σ.length
    · obtain ⟨F1, h1, h2⟩ := EO.kill is (σ' := σ'.set i σ[i]) h (by simpa using hl) fun j hj => by
        by_cases e : j = i
        · subst e
          rw [List.getElem?_set_self (by rw [hl]; exact hi), List.getElem?_eq_getElem hi]
        · rw [List.getElem?_set_ne (Ne.symm e)]
          exact k j (by simp [hj, e])
      obtain ⟨F2, h3, h4⟩ := EO.no_at (σ' := σ') i h2 (by simp) fun j hj => by rw [List.getElem?_set_ne (Ne.symm hj)]
      exact ⟨F2, h3.trans h1, h4⟩
    · obtain ⟨F1, h1, h2⟩ := EO.kill is (σ' := σ') h hl fun j hj => by
        by_cases e : j = i
        · subst e
          rw [List.getElem?_eq_none (by omega), List.getElem?_eq_none (by omega)]
        · exact k j (by simp [hj, e])
      obtain ⟨F2, h3, h4⟩ := EO.no_at (σ' := σ') i h2 rfl fun j hj => rfl
      exact ⟨F2, h3.trans h1, h4⟩
/-- fewer leaves to lend -/
theorem EO.re {β' : List Bool} (h : EO K H β σ ρ F) (hl : β'.length = β.length) (hb : ∀ i d, look ρ i = .bor d → β'[i]? = some true) : EO K H β' σ ρ F := by
  induction h generalizing β' with
  | nil =>
    cases β' with
    | nil => exact .nil
    | cons _ _ => simp at hl
  | no _ ih =>
    cases β' with
    | nil => simp at hl
    | cons b β' => exact .no (ih (by simpa using hl) fun i d e => by simpa using hb (i + 1) d e)
  | val o _ ih =>
    cases β' with
    | nil => simp at hl
    | cons b β' => exact .val o (ih (by simpa using hl) fun i d e => by simpa using hb (i + 1) d e)
  | bor o _ ih =>
    cases β' with
    | nil => simp at hl
    | cons b β' =>
      have e : b = true := by simpa using hb 0 _ rfl
      subst e
      exact .bor o (ih (by simpa using hl) fun i d e => by simpa using hb (i + 1) d e)
end
end PF

set_option Elab.async false
set_option linter.all false
set_option maxRecDepth 100000
/-! PF9: an expression's reading, from the interpreter's answer -/
namespace PF
open PySem PySem.Spec PyProof.Rows L2

/-- places that have been emptied at most -/
structure Le (ρ ρ' : List S) : Prop where
  len : ρ'.length = ρ.length
  at_ : ∀ i, look ρ' i = look ρ i ∨ look ρ' i = .no
theorem Le.refl (ρ : List S) : Le ρ ρ := ⟨rfl, fun _ => .inl rfl⟩
theorem Le.trans {ρ ρ1 ρ2 : List S} (h : Le ρ ρ1) (h2 : Le ρ1 ρ2) : Le ρ ρ2 := ⟨h2.len.trans h.len, fun i => by
  rcases h2.at_ i with e | e
  · rw [e]; exact h.at_ i
  · exact .inr e⟩
theorem put_len : ∀ (ρ : List S) (i : Nat) (s : S), (put ρ i s).length = ρ.length
  | [], _, _ => rfl
  | _ :: _, 0, _ => rfl
  | _ :: r, i + 1, s => congrArg (· + 1) (put_len r i s)
theorem kill_len (ρ : List S) : ∀ is : List Nat, (kill ρ is).length = ρ.length
  | [] => rfl
  | i :: is => by show (put (kill ρ is) i .no).length = _; rw [put_len, kill_len ρ is]
theorem look_over : ∀ (ρ : List S) (i : Nat), ρ.length ≤ i → look ρ i = .no
  | [], _, _ => rfl
  | _ :: _, 0, h => by simp at h
  | _ :: r, i + 1, h => look_over r i (by simpa using h)
theorem Le.no (ρ : List S) (i : Nat) : Le ρ (put ρ i .no) := ⟨put_len _ _ _, fun j => by
  by_cases e : j = i
  · subst e
    refine .inr ?_
    by_cases h : j < ρ.length
    · exact look_put _ _ _ h
    · exact look_over _ _ (by rw [put_len]; omega)
  · exact .inl (look_put_ne _ _ e)⟩
theorem Le.kill (ρ : List S) : ∀ is : List Nat, Le ρ (kill ρ is)
  | [] => .refl _
  | i :: is => (Le.kill ρ is).trans (Le.no _ i)
theorem EO.le {K : PySem.W.Frag} {H : Hp} : ∀ {β : List Bool} {σ : L2.St} {ρ ρ' : List S} {F : List Addr}, EO K H β σ ρ F → Le ρ ρ' → ∃ F', Sb F' F ∧ EO K H β σ ρ' F'
  | _, _, _, [], _, .nil, _ => ⟨[], Sb.refl _, .nil⟩
  | _, _, _, _ :: _, _, .nil, l => by have := l.len; simp at this
  | _, _, _, [], _, .no _, l => by have := l.len; simp at this
  | _, _, _, [], _, .val _ _, l => by have := l.len; simp at this
  | _, _, _, [], _, .bor _ _, l => by have := l.len; simp at this
  | _, _, _, s :: ρ', _, .no h, l => by
    obtain ⟨F', h1, h2⟩ := h.le (ρ' := ρ') ⟨by simpa using l.len, fun i => by simpa [look] using l.at_ (i + 1)⟩
    have e : s = .no := by rcases l.at_ 0 with e | e <;> exact e
    subst e
    exact ⟨F', h1, .no h2⟩
  | _, _, _, s :: ρ', _, .val o h, l => by
    obtain ⟨F', h1, h2⟩ := h.le (ρ' := ρ') ⟨by simpa using l.len, fun i => by simpa [look] using l.at_ (i + 1)⟩
    rcases l.at_ 0 with e | e
    · have e : s = _ := e
      subst e
      exact ⟨_, fun a => by rw [ct_app, ct_app]; have := h1 a; omega, .val o h2⟩
    · have e : s = .no := e
      subst e
      exact ⟨F', fun a => by rw [ct_app]; have := h1 a; omega, .no h2⟩
  | _, _, _, s :: ρ', _, .bor o h, l => by
    obtain ⟨F', h1, h2⟩ := h.le (ρ' := ρ') ⟨by simpa using l.len, fun i => by simpa [look] using l.at_ (i + 1)⟩
    rcases l.at_ 0 with e | e
    · have e : s = _ := e
      subst e
      exact ⟨F', h1, .bor o h2⟩
    · have e : s = .no := e
      subst e
      exact ⟨F', h1, .no h2⟩
inductive RR (K : PySem.W.Frag) (H : Hp) (σ : L2.St) : R → V → List Addr → Prop
  | rv {d : D} {v : V} {G : List Addr} : OW K H v d G → RR K H σ (.rv d) v G
  | nm {i : Nat} {v : V} : σ[i]? = some (some v) → RR K H σ (.nm i) v []
  | bv {d : D} {v : V} {G : List Addr} : OW K H v d G → RR K H σ (.bv d) v []
inductive RRs (K : PySem.W.Frag) (H : Hp) (σ : L2.St) : List R → List V → List Addr → Prop
  | nil : RRs K H σ [] [] []
  | cons {r : R} {v : V} {G : List Addr} {rs : List R} {vs : List V} {Gs : List Addr} : RR K H σ r v G → RRs K H σ rs vs Gs → RRs K H σ (r :: rs) (v :: vs) (G ++ Gs)
/-- the footprint that may change -/
def FF (q : Bool) (F : List Addr) : List Addr := if q = true then [] else F
structure Step (q : Bool) (H : Hp) (F : List Addr) (H' : Hp) (A : List Addr) : Prop where
  nw : ∀ a ∈ A, a ∈ F ∨ H a = none
  fr : Fr H H' (FF q F)
section
variable {K : PySem.W.Frag} {H H1 H2 : Hp} {β : List Bool} {σ : L2.St} {ρ ρ' ρ1 ρ2 : List S} {F F1 F2 A B G : List Addr} {q q' : Bool} {r : R} {v : V}
theorem FF.sub {a : Addr} (h : a ∈ FF q F) : a ∈ F := by
  unfold FF at h
  split at h
  · cases h
  · exact h
theorem FF.ff : FF false F = F := rfl
theorem MutF.ff (h : MutF H F) : MutF H (FF q F) := h.sub fun a => FF.sub
theorem Step.refl : Step q H F H F := ⟨fun a h => .inl h, Fr.refl _ _⟩
theorem Step.sub (h : Step q H F H1 A) (s : ∀ a ∈ B, a ∈ A) : Step q H F H1 B := ⟨fun a ha => h.nw a (s a ha), h.fr⟩
theorem Step.newer (h : Step q H F H1 A) {a : Addr} (hn : H1 a = none) : a ∈ F ∨ H a = none := by
  by_cases hf : a ∈ F
  · exact .inl hf
  · refine .inr ?_
    cases e : H a with
    | none => rfl
    | some o =>
      have := h.fr a o e fun z => hf (FF.sub z)
      rw [hn] at this; cases this
theorem Step.trans (h : Step q H F H1 A) (h1 : ∀ a ∈ F1, a ∈ A) (h2 : Step q' H1 F1 H2 B) (i : q = true → q' = true) : Step q H F H2 (A ++ B) := by
  refine ⟨fun a ha => ?_, fun a o e n => ?_⟩
  · rcases List.mem_append.mp ha with ha | ha
    · exact h.nw a ha
    · rcases h2.nw a ha with ha | ha
      · exact h.nw a (h1 a ha)
      · exact h.newer ha
  · refine h2.fr a o (h.fr a o e n) fun z => ?_
    cases q' with
    | true => cases z
    | false =>
      cases q with
      | true => exact absurd (i rfl) (by decide)
      | false =>
        rcases h.nw a (h1 a z) with w | w
        · exact n w
        · rw [w] at e; cases e
theorem RR.mt (h : RR K H σ r v G) : MutF H G := by
  cases h with
  | rv o => exact o.mt
  | nm _ => exact .nil
  | bv _ => exact .nil
theorem RRs.mt {rs : List R} {vs : List V} (h : RRs K H σ rs vs G) : MutF H G := by
  induction h with
  | nil => exact .nil
  | cons h _ ih => exact h.mt.app ih
theorem RR.fr {F0 : List Addr} (f : Fr H H1 F0) (m : MutF H F0) (h : RR K H σ r v G) (ap : ∀ a ∈ G, a ∉ F0) (l : lent r = true → F0 = []) : RR K H1 σ r v G := by
  cases h with
  | rv o => exact .rv (o.fr f m ap)
  | nm e => exact .nm e
  | bv o =>
    have e := l rfl
    subst e
    exact .bv (o.fr f m fun _ _ z => nomatch z)
theorem RR.rd {F : List Addr} {d : D} (h : RR K H σ r v G) (eo : EO K H β σ ρ F) (e : valR ρ r = some d) : Rd K H v d := by
  cases h with
  | rv o => cases e; exact ⟨_, o⟩
  | bv o => cases e; exact ⟨_, o⟩
  | nm hi =>
    rename_i i
    simp only [valR] at e
    split at e
    · rename_i d' e1
      cases e
      obtain ⟨v', G', F', h1, h2, _⟩ := eo.val_at e1
      rw [hi] at h1
      cases h1
      exact ⟨_, h2⟩
    · cases e
theorem RRs.rds {F : List Addr} {rs : List R} {vs : List V} (h : RRs K H σ rs vs G) (eo : EO K H β σ ρ F) : ∀ {ds : List D}, vals ρ rs = some ds → Rds K H vs ds := by
  induction h with
  | nil => intro ds e; cases e; exact .nil
  | cons h _ ih =>
    intro ds e
    simp only [vals] at e
    split at e
    · rename_i d ds' e1 e2
      cases e
      exact .cons (h.rd eo e1) (ih e2)
    · cases e

/-- an expression's end -/
structure Pst (K : PySem.W.Frag) (β : List Bool) (q : Bool) (σ : L2.St) (ρ : List S) (H : Hp) (F : List Addr) (r : R) (ρ' : List S) (v : V) (H' : Hp) (F' G : List Addr) : Prop where
  eo : EO K H' β σ ρ' F'
  rr : RR K H' σ r v G
  nd : ND (F' ++ G)
  st : Step q H F H' (F' ++ G)
  nq : q = true → ∀ a ∈ G, H a = none
  le : q = true → Le ρ ρ'
structure PstL (K : PySem.W.Frag) (β : List Bool) (q : Bool) (σ : L2.St) (ρ : List S) (H : Hp) (F : List Addr) (rs : List R) (ρ' : List S) (vs : List V) (H' : Hp) (F' G : List Addr) : Prop where
  eo : EO K H' β σ ρ' F'
  rr : RRs K H' σ rs vs G
  nd : ND (F' ++ G)
  st : Step q H F H' (F' ++ G)
  nq : q = true → ∀ a ∈ G, H a = none
  le : q = true → Le ρ ρ'
/-- how one begins -/
structure Pre (K : PySem.W.Frag) (β : List Bool) (q : Bool) (σ : L2.St) (ρ : List S) (H : Hp) (F : List Addr) : Prop where
  nb : q = false → noB β
  eo : EO K H β σ ρ F
  nd : ND F
def xE (Γ : List CT) (K : PySem.W.Frag) (x : Ex) : TE := fun σ H Q => ∃ β q ρ F r ρ', Pre K β q σ ρ H F ∧ ev Γ q x ρ = some (r, ρ') ∧ ∀ v H' F' G, Pst K β q σ ρ H F r ρ' v H' F' G → Q v H'
def xL (Γ : List CT) (K : PySem.W.Frag) (xs : List Ex) : TA := fun σ H Q => ∃ β q ρ F rs ρ', Pre K β q σ ρ H F ∧ evL Γ q xs ρ = some (rs, ρ') ∧ ∀ vs H' F' G, PstL K β q σ ρ H F rs ρ' vs H' F' G → Q vs H'
structure PstT (K : PySem.W.Frag) (β : List Bool) (q : Bool) (σ : L2.St) (ρ : List S) (H : Hp) (F : List Addr) (ρ' : List S) (H' : Hp) (F' : List Addr) : Prop where
  eo : EO K H' β σ ρ' F'
  nd : ND F'
  st : Step q H F H' F'
  le : q = true → Le ρ ρ'
def xT (Γ : List CT) (K : PySem.W.Frag) (x : Ex) : TT := fun σ H Q => ∃ β q ρ F r ρ' k, Pre K β q σ ρ H F ∧ ev Γ q x ρ = some (r, ρ') ∧ truR ρ' r = some k ∧ ∀ H' F', PstT K β q σ ρ H F ρ' H' F' → Q k H'
theorem ND.left (h : ND (A ++ B)) : ND A := fun a => by have := h a; rw [ct_app] at this; omega
theorem ND.right (h : ND (A ++ B)) : ND B := fun a => by have := h a; rw [ct_app] at this; omega
theorem or_false {a b : Bool} (h : (a || b) = false) : a = false := by cases a <;> simp_all
theorem Pst.pre (h : Pst K β q σ ρ H F r ρ' v H1 F1 G) (nb : q = false → noB β) : Pre K β (q || lent r) σ ρ' H1 F1 := ⟨fun e => nb (or_false e), h.eo, h.nd.left⟩
theorem Pst.preS (h : Pst K β q σ ρ H F r ρ' v H1 F1 G) (nb : q = false → noB β) : Pre K β q σ ρ' H1 F1 := ⟨nb, h.eo, h.nd.left⟩
/-- what is apart stays apart -/
theorem ND.keep {F1 G1 A2 : List Addr} (h1 : ND (F1 ++ G1)) (m : MutF H1 G1) (h2 : ND A2) (s : ∀ a ∈ A2, a ∈ F1 ∨ H1 a = none) : ND (A2 ++ G1) := fun a => by
  have c1 := h1 a
  have c2 := h2 a
  rw [ct_app] at c1 ⊢
  by_cases hg : a ∈ G1
  · have hn : a ∉ A2 := fun z => by
      rcases s a z with w | w
      · exact h1.apart w hg
      · exact m.ne w hg
    have : List.count (α := Nat) a A2 = 0 := List.count_eq_zero.mpr hn
    omega
  · have : List.count (α := Nat) a G1 = 0 := List.count_eq_zero.mpr hg
    omega
theorem ND.perm (h : ND A) (s : ∀ a : Nat, List.count (α := Nat) a B ≤ List.count a A) : ND B := fun a => Nat.le_trans (s a) (h a)
/-- a first result behind the next step -/
theorem RR.behind {F1 G1 A2 : List Addr} (h : RR K H1 σ r v G1) (nd : ND (F1 ++ G1)) (m : MutF H1 F1) (st : Step (q || lent r) H1 F1 H2 A2) : RR K H2 σ r v G1 :=
  h.fr st.fr m.ff (fun a ha z => nd.apart (FF.sub z) ha) fun l => by rw [l, Bool.or_true]; rfl
theorem Fr.oldNone (f : Fr H H1 []) {a : Addr} (h : H1 a = none) : H a = none := by
  cases e : H a with
  | none => rfl
  | some o =>
    have := f a o e fun z => nomatch z
    rw [h] at this; cases this
theorem Step.q0 (h : Step true H F H1 A) : Fr H H1 [] := h.fr
theorem PstL.cons {rs : List R} {vs : List V} {F1 G1 F2 G2 : List Addr} (h : Pst K β q σ ρ H F r ρ1 v H1 F1 G1) (h2 : PstL K β (q || lent r) σ ρ1 H1 F1 rs ρ2 vs H2 F2 G2) : PstL K β q σ ρ H F (r :: rs) ρ2 (v :: vs) H2 F2 (G1 ++ G2) := by
  refine ⟨h2.eo, .cons (h.rr.behind h.nd h.eo.mt h2.st) h2.rr, ?_, ?_, fun e a ha => ?_, fun e => (h.le e).trans (h2.le (by rw [e]; rfl))⟩
  · refine (h.nd.keep h.rr.mt h2.nd h2.st.nw).perm fun a => ?_
    simp only [ct_app]
    omega
  · refine (h.st.trans (fun a ha => List.mem_append_left _ ha) h2.st fun e => by rw [e]; rfl).sub fun a ha => ?_
    simp only [List.mem_append] at ha ⊢
    rcases ha with ha | ha | ha
    · exact .inr (.inl ha)
    · exact .inl (.inr ha)
    · exact .inr (.inr ha)
  · rcases List.mem_append.mp ha with ha | ha
    · exact h.nq e a ha
    · subst e
      exact h.st.q0.oldNone (h2.nq rfl a ha)
theorem xL_nil {Γ : List CT} {Q : List V → Hp → Prop} (h : xL Γ K [] σ H Q) : Q [] H := by
  obtain ⟨β, q, ρ, F, rs, ρ', p, e, k⟩ := h
  cases e
  exact k [] H F [] ⟨p.eo, .nil, by rw [List.append_nil]; exact p.nd, by rw [List.append_nil]; exact .refl, (fun _ _ z => nomatch z), fun _ => .refl _⟩
theorem xL_cons {Γ : List CT} {x : Ex} {xs : List Ex} {Q : List V → Hp → Prop} (h : xL Γ K (x :: xs) σ H Q) : xE Γ K x σ H fun v H1 => xL Γ K xs σ H1 fun vs H2 => Q (v :: vs) H2 := by
  obtain ⟨β, q, ρ, F, rs, ρ', p, e, k⟩ := h
  simp only [evL] at e
  split at e
  · rename_i r ρ1 e1
    split at e
    · rename_i rs' ρ2 e2
      cases e
      refine ⟨β, q, ρ, F, r, ρ1, p, e1, fun v H1 F1 G1 h1 => ⟨β, q || lent r, ρ1, F1, rs', ρ', h1.pre p.nb, e2, fun vs H2 F2 G2 h2 => k _ _ _ _ (.cons h1 h2)⟩⟩
    · cases e
  · cases e
theorem xE.mono {Γ : List CT} {x : Ex} {Q Q' : VK} (h : xE Γ K x σ H Q) (i : ∀ v H1, Q v H1 → Q' v H1) : xE Γ K x σ H Q' := by
  obtain ⟨β, q, ρ, F, r, ρ', p, e, k⟩ := h
  exact ⟨β, q, ρ, F, r, ρ', p, e, fun v H' F' G h => i _ _ (k v H' F' G h)⟩
theorem xL_two {Γ : List CT} {x y : Ex} {Q : List V → Hp → Prop} (h : xL Γ K [x, y] σ H Q) : xE Γ K x σ H fun v H1 => xE Γ K y σ H1 fun u H2 => Q [v, u] H2 :=
  (xL_cons h).mono fun _ _ h => (xL_cons h).mono fun _ _ h => xL_nil h
theorem xL_one {Γ : List CT} {x : Ex} {Q : List V → Hp → Prop} (h : xL Γ K [x] σ H Q) : xE Γ K x σ H fun v H1 => Q [v] H1 :=
  (xL_cons h).mono fun _ _ h => xL_nil h
/-- a new value behind arguments -/
theorem PstL.new {rs : List R} {vs : List V} {z : D} {H3 : Hp} (h : PstL K β q σ ρ H F rs ρ' vs H2 F2 G) (n : NewV K H2 v z H3) : ∃ G', Pst K β q σ ρ H F (.rv z) ρ' v H3 F2 G' := by
  obtain ⟨G', o, nd, nw, f⟩ := n
  refine ⟨G', h.eo.fr0 f, .rv o, fun a => ?_, ⟨fun a ha => ?_, fun a ob e n => f a ob (h.st.fr a ob e n) (fun z => nomatch z)⟩, fun e a ha => ?_, h.le⟩
  · have c1 := h.nd.left a
    have c2 := nd a
    rw [ct_app]
    by_cases hg : a ∈ G'
    · have : List.count (α := Nat) a F2 = 0 := List.count_eq_zero.mpr (h.eo.mt.ne (nw a hg))
      omega
    · have : List.count (α := Nat) a G' = 0 := List.count_eq_zero.mpr hg
      omega
  · rcases List.mem_append.mp ha with ha | ha
    · exact h.st.nw a (List.mem_append_left _ ha)
    · exact h.st.newer (nw a ha)
  · subst e
    exact h.st.q0.oldNone (nw a ha)
theorem x_op {Γ : List CT} {o : Op} {xs : List Ex} {Q : VK} (h : xE Γ K (.op o xs) σ H Q) : xL Γ K xs σ H fun vs H1 => ∃ ds z, Rds K H1 vs ds ∧ opD o ds = some z ∧ Meet K H1 z Q := by
  obtain ⟨β, q, ρ, F, r, ρ', p, e, k⟩ := h
  simp only [ev] at e
  split at e
  · rename_i rs ρ1 e1
    split at e
    · rename_i ds e2
      split at e
      · rename_i d e3
        cases e
        refine ⟨β, q, ρ, F, rs, ρ', p, e1, fun vs H1 F1 G1 h1 => ⟨ds, d, h1.rr.rds h1.eo e2, e3, fun v H2 n => ?_⟩⟩
        obtain ⟨G', h2⟩ := h1.new n
        exact k v H2 F1 G' h2
      · cases e
    · cases e
  · cases e
theorem x_nm {Γ : List CT} {i : Nat} {Q : VK} (h : xE Γ K (.nm i) σ H Q) : tVar i σ H Q := by
  obtain ⟨β, q, ρ, F, r, ρ', p, e, k⟩ := h
  have fin : ∀ {r : R} {v : V}, some (r, ρ) = some (r, ρ') → RR K H σ r v [] → (∀ v H' F' G, Pst K β q σ ρ H F r ρ' v H' F' G → Q v H') → Q v H := fun {r v} e rr k => by
    cases e
    exact k v H F [] ⟨p.eo, rr, by rw [List.append_nil]; exact p.nd, by rw [List.append_nil]; exact .refl, (fun _ _ z => nomatch z), fun _ => .refl _⟩
  simp only [ev] at e
  split at e
  · rename_i t e1
    obtain ⟨v, G', F', h1, h2, _⟩ := p.eo.val_at e1
    cases e
    cases h2 with
    | p h2 => exact ⟨v, h1, fin rfl (.rv (.p h2)) k⟩
  · rename_i d _ e1
    obtain ⟨v, G', F', h1, h2, _⟩ := p.eo.val_at e1
    cases e
    exact ⟨v, h1, fin rfl (.nm h1) k⟩
  · rename_i t e1
    obtain ⟨v, G', h1, h2, _⟩ := p.eo.bor_at e1
    cases e
    cases h2 with
    | p h2 => exact ⟨v, h1, fin rfl (.rv (.p h2)) k⟩
  · rename_i d _ e1
    obtain ⟨v, G', h1, h2, _⟩ := p.eo.bor_at e1
    split at e
    · cases e
      exact ⟨v, h1, fin rfl (.bv h2) k⟩
    · cases e
  · cases e
theorem x_cst {Γ : List CT} {t : T} {Q : VK} (h : xE Γ K (.cst t) σ H Q) {v : V} (rt : RT K H v t) : Q v H := by
  obtain ⟨β, q, ρ, F, r, ρ', p, e, k⟩ := h
  cases e
  exact k v H F [] ⟨p.eo, .rv (.p rt), by rw [List.append_nil]; exact p.nd, by rw [List.append_nil]; exact .refl, (fun _ _ z => nomatch z), fun _ => .refl _⟩
/-- results read again, nothing new -/
theorem PstL.same {rs : List R} {vs : List V} (h : PstL K β q σ ρ H F rs ρ' vs H2 F2 G) (rr : RR K H2 σ r v []) : Pst K β q σ ρ H F r ρ' v H2 F2 [] :=
  ⟨h.eo, rr, by rw [List.append_nil]; exact h.nd.left, by rw [List.append_nil]; exact h.st.sub fun a ha => List.mem_append_left _ ha, (fun _ _ z => nomatch z), h.le⟩
theorem idx_evL {Γ : List CT} {a i : Ex} {x : R} (e : ev Γ q (.idx a i) ρ = some (x, ρ')) : ∃ r ri d k, evL Γ q [a, i] ρ = some ([r, ri], ρ') ∧ vals ρ' [r, ri] = some [d, k] ∧
    ((∃ z, itemD [d, k] = some z ∧ x = .rv z) ∨ ∃ ds j z, d = .l ds ∧ k = .p (.int j) ∧ atI ds j = some z ∧ x = .bv z) := by
  simp only [ev] at e
  split at e
  · rename_i r ρ1 e1
    split at e
    · rename_i ri ρ2 e2
      split at e
      · rename_i ds k e3 e4
        split at e
        · rename_i t e5
          cases e
          refine ⟨r, ri, .l ds, .p (.int k), by simp [evL, e1, e2], by simp [vals, e3, e4], .inl ⟨.p t, ?_, rfl⟩⟩
          simp [itemD, e5]
        · rename_i d hn e5
          split at e
          · cases e
          · cases e
            exact ⟨r, ri, .l ds, .p (.int k), by simp [evL, e1, e2], by simp [vals, e3, e4], .inr ⟨ds, k, d, rfl, rfl, e5, rfl⟩⟩
        · cases e
      · rename_i d k hn e3 e4
        split at e
        · rename_i z e5
          cases e
          exact ⟨r, ri, d, k, by simp [evL, e1, e2], by simp [vals, e3, e4], .inl ⟨z, e5, rfl⟩⟩
        · cases e
      · cases e
    · cases e
  · cases e
theorem x_idx {Γ : List CT} {a i : Ex} {Q : VK} (h : xE Γ K (.idx a i) σ H Q) : xE Γ K a σ H fun x H1 => xE Γ K i σ H1 fun y H2 => rIx K x y H2 Q := by
  obtain ⟨β, q, ρ, F, x, ρ', p, e, k⟩ := h
  obtain ⟨r, ri, d, kd, e1, e2, e3⟩ := idx_evL e
  refine xL_two (Q := fun vs H2 => ∀ x y, vs = [x, y] → rIx K x y H2 Q) ⟨β, q, ρ, F, [r, ri], ρ', p, e1, fun vs H2 F2 G2 h2 x' y' ex => ?_⟩ |>.mono fun v H1 h => h.mono fun u H2 h => h _ _ rfl
  subst ex
  obtain ⟨x1, y1, ex, hx, hy⟩ := rds2 (h2.rr.rds h2.eo e2)
  cases ex
  rcases e3 with ⟨z, e4, rfl⟩ | ⟨ds, j, z, rfl, rfl, e4, rfl⟩
  · exact s_item e4 hx hy fun v H3 n => by
      obtain ⟨G', h3⟩ := h2.new n
      exact k v H3 F2 G' h3
  · obtain ⟨p1, vs1, G1, rfl, hs, rr⟩ := hx.lst
    rw [hy.int]
    obtain ⟨v1, G', h5, h6, _⟩ := rr.at e4
    exact .inl ⟨p1, vs1, j, v1, rfl, rfl, .of hs, h5, k _ _ _ _ (h2.same (.bv h6))⟩
theorem RR.tru {k : Bool} (h : RR K H σ r v G) (eo : EO K H β σ ρ F) (e : truR ρ r = some k) : TruV K v H k := by
  unfold truR at e
  cases e1 : valR ρ r with
  | none => rw [e1] at e; cases e
  | some d =>
    rw [e1] at e
    have hr := h.rd eo e1
    have e : truD d = some k := e
    cases d with
    | p t =>
      cases t with
      | non => rw [hr.non]; cases e; rfl
      | bl b => rw [hr.bl]; cases e; rfl
      | int i => rw [hr.int]; cases e; rfl
      | str s =>
        rw [hr.str]
        simp only [truD] at e
        split at e
        · rename_i hl
          cases e
          exact ⟨by rw [← LIM_line]; exact hl, rfl⟩
        · cases e
      | tup ts =>
        obtain ⟨a, vs, rfl, hs, rr⟩ := hr.tup
        cases e
        refine .inr (.inl ⟨vs, hs, ?_⟩)
        cases rr <;> rfl
    | l ds =>
      obtain ⟨a, vs, G, rfl, hs, rr⟩ := hr.lst
      cases e
      refine .inl ⟨vs, .of hs, ?_⟩
      cases rr <;> rfl
    | u ds =>
      obtain ⟨a, vs, G, rfl, hs, rr⟩ := hr.seqs
      cases e
      refine .inr (.inl ⟨vs, hs, ?_⟩)
      cases rr <;> rfl
    | ro ts =>
      obtain ⟨a, vs, rfl, hs, rr⟩ := hr.roS
      cases e
      refine .inl ⟨vs, hs.l, ?_⟩
      cases rr <;> rfl
    | c ks vs => exact hr.notC.elim
/-- one behind another, of which only the places stay -/
theorem Pst.then_ {r2 : R} {v2 : V} {G2 : List Addr} (h : Pst K β q σ ρ H F r ρ1 v H1 F1 G) (h2 : Pst K β q σ ρ1 H1 F1 r2 ρ2 v2 H2 F2 G2) : Pst K β q σ ρ H F r2 ρ2 v2 H2 F2 G2 :=
  ⟨h2.eo, h2.rr, h2.nd, (h.st.trans (fun a ha => List.mem_append_left _ ha) h2.st id).sub fun a ha => List.mem_append_right _ ha, fun e a ha => by
    subst e
    exact h.st.q0.oldNone (h2.nq rfl a ha), fun e => (h.le e).trans (h2.le e)⟩
theorem PstT.then_ {r2 : R} {v2 : V} {G2 : List Addr} (h : PstT K β q σ ρ H F ρ1 H1 F1) (h2 : Pst K β q σ ρ1 H1 F1 r2 ρ2 v2 H2 F2 G2) : Pst K β q σ ρ H F r2 ρ2 v2 H2 F2 G2 :=
  ⟨h2.eo, h2.rr, h2.nd, (h.st.trans (fun a ha => ha) h2.st id).sub fun a ha => List.mem_append_right _ ha, fun e a ha => by
    subst e
    exact h.st.q0.oldNone (h2.nq rfl a ha), fun e => (h.le e).trans (h2.le e)⟩
theorem PstT.thenT (h : PstT K β q σ ρ H F ρ1 H1 F1) (h2 : PstT K β q σ ρ1 H1 F1 ρ2 H2 F2) : PstT K β q σ ρ H F ρ2 H2 F2 :=
  ⟨h2.eo, h2.nd, (h.st.trans (fun a ha => ha) h2.st id).sub fun a ha => List.mem_append_right _ ha, fun e => (h.le e).trans (h2.le e)⟩
theorem Pst.t (h : Pst K β q σ ρ H F r ρ1 v H1 F1 G) : PstT K β q σ ρ H F ρ1 H1 F1 := ⟨h.eo, h.nd.left, h.st.sub fun a ha => List.mem_append_left _ ha, h.le⟩
theorem PstT.pre (h : PstT K β q σ ρ H F ρ1 H1 F1) (nb : q = false → noB β) : Pre K β q σ ρ1 H1 F1 := ⟨nb, h.eo, h.nd⟩
theorem x_and {Γ : List CT} {a b : Ex} {Q : VK} (h : xE Γ K (.and_ a b) σ H Q) : tAndT K (xE Γ K a) (xE Γ K b) σ H Q := by
  obtain ⟨β, q, ρ, F, x, ρ', p, e, k⟩ := h
  simp only [ev] at e
  split at e
  · rename_i r ρ1 e1
    split at e
    · rename_i e2
      exact ⟨β, q, ρ, F, r, ρ1, p, e1, fun v H1 F1 G1 h1 => ⟨true, h1.rr.tru h1.eo e2, by
        refine ite_tt ?_
        exact ⟨β, q, ρ1, F1, x, ρ', h1.preS p.nb, e, fun v2 H2 F2 G2 h2 => k _ _ _ _ (h1.then_ h2)⟩⟩⟩
    · rename_i e2
      cases e
      exact ⟨β, q, ρ, F, x, ρ', p, e1, fun v H1 F1 G1 h1 => ⟨false, h1.rr.tru h1.eo e2, k _ _ _ _ h1⟩⟩
    · cases e
  · cases e
theorem x_or {Γ : List CT} {a b : Ex} {Q : VK} (h : xE Γ K (.or_ a b) σ H Q) : tOrT K (xE Γ K a) (xE Γ K b) σ H Q := by
  obtain ⟨β, q, ρ, F, x, ρ', p, e, k⟩ := h
  simp only [ev] at e
  split at e
  · rename_i r ρ1 e1
    split at e
    · rename_i e2
      cases e
      exact ⟨β, q, ρ, F, x, ρ', p, e1, fun v H1 F1 G1 h1 => ⟨true, h1.rr.tru h1.eo e2, k _ _ _ _ h1⟩⟩
    · rename_i e2
      exact ⟨β, q, ρ, F, r, ρ1, p, e1, fun v H1 F1 G1 h1 => ⟨false, h1.rr.tru h1.eo e2, by
        refine ite_ff ?_
        exact ⟨β, q, ρ1, F1, x, ρ', h1.preS p.nb, e, fun v2 H2 F2 G2 h2 => k _ _ _ _ (h1.then_ h2)⟩⟩⟩
    · cases e
  · cases e
theorem truR_B {k : Bool} : truR ρ (.rv (PF.B k)) = some k := rfl
/-- a bool behind a test -/
theorem PstT.bl {k : Bool} (h : PstT K β q σ ρ H F ρ1 H1 F1) : Pst K β q σ ρ H F (.rv (PF.B k)) ρ1 (.bl k) H1 F1 [] :=
  ⟨h.eo, .rv (.p (.bl k)), by rw [List.append_nil]; exact h.nd, by rw [List.append_nil]; exact h.st, (fun _ _ z => nomatch z), h.le⟩
theorem x_not {Γ : List CT} {a : Ex} {Q : VK} (h : xE Γ K (.not_ a) σ H Q) : tNotT K (xE Γ K a) σ H Q := by
  obtain ⟨β, q, ρ, F, x, ρ', p, e, k⟩ := h
  simp only [ev] at e
  split at e
  · rename_i r ρ1 e1
    split at e
    · rename_i c e2
      cases e
      exact ⟨β, q, ρ, F, r, ρ', p, e1, fun v H1 F1 G1 h1 => ⟨c, h1.rr.tru h1.eo e2, k _ _ _ _ h1.t.bl⟩⟩
    · cases e
  · cases e
theorem x_ifx {Γ : List CT} {c a b : Ex} {Q : VK} (h : xE Γ K (.ifx c a b) σ H Q) : tIf (xT Γ K c) (xE Γ K a) (xE Γ K b) σ H Q := by
  obtain ⟨β, q, ρ, F, x, ρ', p, e, k⟩ := h
  simp only [ev] at e
  split at e
  · rename_i r ρ1 e1
    split at e
    · rename_i e2
      refine ⟨β, q, ρ, F, r, ρ1, true, p, e1, e2, fun H1 F1 h1 => ?_⟩
      refine ite_tt ?_
      exact ⟨β, q, ρ1, F1, x, ρ', h1.pre p.nb, e, fun v2 H2 F2 G2 h2 => k _ _ _ _ (h1.then_ h2)⟩
    · rename_i e2
      refine ⟨β, q, ρ, F, r, ρ1, false, p, e1, e2, fun H1 F1 h1 => ?_⟩
      refine ite_ff ?_
      exact ⟨β, q, ρ1, F1, x, ρ', h1.pre p.nb, e, fun v2 H2 F2 G2 h2 => k _ _ _ _ (h1.then_ h2)⟩
    · cases e
  · cases e
/-! tests -/
theorem t_and {Γ : List CT} {a b : Ex} {Q : Bool → Hp → Prop} (h : xT Γ K (.and_ a b) σ H Q) : tAnd (xT Γ K a) (xT Γ K b) σ H Q := by
  obtain ⟨β, q, ρ, F, x, ρ', c, p, e, ec, k⟩ := h
  simp only [ev] at e
  split at e
  · rename_i r ρ1 e1
    split at e
    · rename_i e2
      refine ⟨β, q, ρ, F, r, ρ1, true, p, e1, e2, fun H1 F1 h1 => ?_⟩
      refine ite_tt ?_
      exact ⟨β, q, ρ1, F1, x, ρ', c, h1.pre p.nb, e, ec, fun H2 F2 h2 => k _ _ (h1.thenT h2)⟩
    · rename_i e2
      cases e
      rw [e2] at ec
      cases ec
      exact ⟨β, q, ρ, F, x, ρ', false, p, e1, e2, fun H1 F1 h1 => k _ _ h1⟩
    · cases e
  · cases e
theorem t_or {Γ : List CT} {a b : Ex} {Q : Bool → Hp → Prop} (h : xT Γ K (.or_ a b) σ H Q) : tOr (xT Γ K a) (xT Γ K b) σ H Q := by
  obtain ⟨β, q, ρ, F, x, ρ', c, p, e, ec, k⟩ := h
  simp only [ev] at e
  split at e
  · rename_i r ρ1 e1
    split at e
    · rename_i e2
      cases e
      rw [e2] at ec
      cases ec
      exact ⟨β, q, ρ, F, x, ρ', true, p, e1, e2, fun H1 F1 h1 => k _ _ h1⟩
    · rename_i e2
      refine ⟨β, q, ρ, F, r, ρ1, false, p, e1, e2, fun H1 F1 h1 => ?_⟩
      refine ite_ff ?_
      exact ⟨β, q, ρ1, F1, x, ρ', c, h1.pre p.nb, e, ec, fun H2 F2 h2 => k _ _ (h1.thenT h2)⟩
    · cases e
  · cases e
theorem t_not {Γ : List CT} {a : Ex} {Q : Bool → Hp → Prop} (h : xT Γ K (.not_ a) σ H Q) : tNot (xT Γ K a) σ H Q := by
  obtain ⟨β, q, ρ, F, x, ρ', c, p, e, ec, k⟩ := h
  simp only [ev] at e
  split at e
  · rename_i r ρ1 e1
    split at e
    · rename_i c' e2
      cases e
      cases ec
      exact ⟨β, q, ρ, F, r, ρ', c', p, e1, e2, fun H1 F1 h1 => k _ _ h1⟩
    · cases e
  · cases e
theorem t_ifx {Γ : List CT} {c a b : Ex} {Q : Bool → Hp → Prop} (h : xT Γ K (.ifx c a b) σ H Q) : xT Γ K c σ H fun k H1 => if k = true then xT Γ K a σ H1 Q else xT Γ K b σ H1 Q := by
  obtain ⟨β, q, ρ, F, x, ρ', c', p, e, ec, k⟩ := h
  simp only [ev] at e
  split at e
  · rename_i r ρ1 e1
    split at e
    · rename_i e2
      refine ⟨β, q, ρ, F, r, ρ1, true, p, e1, e2, fun H1 F1 h1 => ?_⟩
      refine ite_tt ?_
      exact ⟨β, q, ρ1, F1, x, ρ', c', h1.pre p.nb, e, ec, fun H2 F2 h2 => k _ _ (h1.thenT h2)⟩
    · rename_i e2
      refine ⟨β, q, ρ, F, r, ρ1, false, p, e1, e2, fun H1 F1 h1 => ?_⟩
      refine ite_ff ?_
      exact ⟨β, q, ρ1, F1, x, ρ', c', h1.pre p.nb, e, ec, fun H2 F2 h2 => k _ _ (h1.thenT h2)⟩
    · cases e
  · cases e
/-- a test that is a value's truth -/
theorem t_val {Γ : List CT} {a : Ex} {Q : Bool → Hp → Prop} (h : xT Γ K a σ H Q) : xE Γ K a σ H fun x H' => ∃ k, TruV K x H' k ∧ Q k H' := by
  obtain ⟨β, q, ρ, F, x, ρ', c, p, e, ec, k⟩ := h
  exact ⟨β, q, ρ, F, x, ρ', p, e, fun v H1 F1 G1 h1 => ⟨c, h1.rr.tru h1.eo ec, k _ _ h1.t⟩⟩
end
end PF

set_option Elab.async false
set_option linter.all false
set_option maxRecDepth 100000
/-! PF10: chains, methods, displays, calls -/
namespace PF
open PySem PySem.Spec PyProof.Rows L2
section
variable {K : PySem.W.Frag} {H H1 H2 : Hp} {β : List Bool} {σ : L2.St} {ρ ρ' ρ1 ρ2 : List S} {F F1 F2 A G : List Addr} {q q' : Bool} {r : R} {v : V} {Γ : List CT}
theorem Rd.frP {t : T} {F0 : List Addr} (h : Rd K H v (.p t)) (f : Fr H H1 F0) (m : MutF H F0) : Rd K H1 v (.p t) := ⟨[], .p (h.rt.fr f m)⟩
theorem RT.rd {t : T} (h : RT K H v t) : Rd K H v (.p t) := ⟨[], .p h⟩
theorem x_chain {o1 o2 : Op} {a b c : Ex} {Q : VK} (h : xE Γ K (.chain o1 o2 a b c) σ H Q) : xE Γ K a σ H fun x H1 => xE Γ K b σ H1 fun y H2 => ∃ X Y k, Rd K H2 x (.p X) ∧ Rd K H2 y (.p Y) ∧ opD o1 [.p X, .p Y] = some (B k) ∧
    ∀ v H3, NewV K H2 v (B k) H3 → v = .bl k ∧ if k = true then xE Γ K c σ H3 fun w H4 => ∃ Z z, Rd K H4 y (.p Y) ∧ Rd K H4 w (.p Z) ∧ opD o2 [.p Y, .p Z] = some z ∧ Meet K H4 z Q else Q (.bl false) H3 := by
  obtain ⟨β, q, ρ, F, x0, ρ', p, e, k⟩ := h
  simp only [ev] at e
  split at e
  · rename_i ra ρ1 e1
    split at e
    · rename_i x e2
      split at e
      · rename_i rb ρ2 e3
        split at e
        · rename_i y e4
          refine ⟨β, q, ρ, F, ra, ρ1, p, e1, fun vx H1 F1 G1 h1 => ⟨β, q, ρ1, F1, rb, ρ2, h1.preS p.nb, e3, fun vy H2 F2 G2 h2 => ?_⟩⟩
          have hx : Rd K H2 vx (.p x) := (h1.rr.rd h1.eo e2).frP h2.st.fr h1.eo.mt.ff
          have hy : Rd K H2 vy (.p y) := h2.rr.rd h2.eo e4
          have up : ∀ {k : Bool} {v : V} {H3 : Hp}, NewV K H2 v (B k) H3 → v = .bl k ∧ Fr H2 H3 [] ∧ PstT K β q σ ρ H F ρ2 H3 F2 := fun {k v H3} n => by
            obtain ⟨G', o, nd, nw, f⟩ := n
            have h3 : PstT K β q σ ρ H F ρ2 H2 F2 := h1.t.thenT h2.t
            exact ⟨(show Rd K H3 v (.p (.bl k)) from ⟨_, o⟩).bl, f, h3.eo.fr0 f, h3.nd, ⟨h3.st.nw, fun a ob e n => f a ob (h3.st.fr a ob e n) (fun z => nomatch z)⟩, h3.le⟩
          split at e
          · rename_i e5
            refine ⟨x, y, true, hx, hy, e5, fun v H3 n => ?_⟩
            obtain ⟨ev', f, h3⟩ := up n
            refine ⟨ev', ite_tt ?_⟩
            split at e
            · rename_i rc ρ3 e6
              split at e
              · rename_i z e7
                split at e
                · rename_i d e8
                  cases e
                  refine ⟨β, q, ρ2, F2, rc, ρ', h3.pre p.nb, e6, fun w H4 F4 G4 h4 => ⟨z, d, (hy.frP f .nil).frP h4.st.fr h3.eo.mt.ff, h4.rr.rd h4.eo e7, e8, fun v5 H5 n5 => ?_⟩⟩
                  have h5 : PstL K β q σ ρ H F [rc] ρ' [w] H4 F4 (G4 ++ []) := by
                    have := h3.then_ h4
                    exact ⟨this.eo, .cons this.rr .nil, by rw [List.append_nil]; exact this.nd, by rw [List.append_nil]; exact this.st, by rw [List.append_nil]; exact this.nq, this.le⟩
                  obtain ⟨G', h6⟩ := h5.new n5
                  exact k v5 H5 F4 G' h6
                · cases e
              · cases e
            · cases e
          · rename_i e5
            cases e
            refine ⟨x, y, false, hx, hy, e5, fun v H3 n => ?_⟩
            obtain ⟨ev', f, h3⟩ := up n
            exact ⟨ev', ite_ff (k _ _ _ _ h3.bl)⟩
          · cases e
        · cases e
      · cases e
    · cases e
  · cases e

/-! ### methods of lists and tuples -/
def tyF (K : PySem.W.Frag) (T : String) (x : V) (H : Hp) : Prop := (T = "list" ∧ ∃ p xs, x = .ref p ∧ SqL K H p xs) ∨ (T = "tuple" ∧ ∃ p xs, x = .ref p ∧ SqD K H p xs)
def tyD (T : String) (d : D) : Prop := (T = "list" ∧ ∀ t, d ≠ .p t) ∨ (T = "tuple" ∧ ∃ ts, d = .p (.tup ts))
theorem x_mth {o : Op} {a i : Ex} {Q : VK} (h : xE Γ K (.mth o a i) σ H Q) : xE Γ K a σ H fun x H1 => ∃ T, tyF K T x H1 ∧ xE Γ K i σ H1 fun y H2 => ∃ d k z, tyD T d ∧ Rd K H2 x d ∧ Rd K H2 y k ∧ opD o [d, k] = some z ∧ Meet K H2 z Q := by
  obtain ⟨β, q, ρ, F, x0, ρ', p, e, k⟩ := h
  simp only [ev] at e
  split at e
  · rename_i r ρ1 e1
    split at e
    · rename_i r2 ρ2 e2
      split at e
      · rename_i d0 d d2 e3 e4 e5
        split at e
        · rename_i hs
          cases e6 : opD o [d, d2] with
          | none => rw [e6] at e; cases e
          | some z =>
            rw [e6] at e
            cases e
            refine ⟨β, q, ρ, F, r, ρ1, p, e1, fun vx H1 F1 G1 h1 => ?_⟩
            have hx := h1.rr.rd h1.eo e3
            have rest : ∀ T, tyD T d → xE Γ K i σ H1 fun y H2 => ∃ d k z, tyD T d ∧ Rd K H2 vx d ∧ Rd K H2 y k ∧ opD o [d, k] = some z ∧ Meet K H2 z Q := fun T hT =>
              ⟨β, q || lent r, ρ1, F1, r2, ρ', h1.pre p.nb, e2, fun vy H2 F2 G2 h2 => by
                have h3 : PstL K β (q || lent r) σ ρ1 H1 F1 [r2] ρ' [vy] H2 F2 (G2 ++ []) := ⟨h2.eo, .cons h2.rr .nil, by rw [List.append_nil]; exact h2.nd, by rw [List.append_nil]; exact h2.st, by rw [List.append_nil]; exact h2.nq, h2.le⟩
                have h4 := PstL.cons h1 h3
                obtain ⟨x1, y1, ex, rx, ry⟩ := rds2 (h4.rr.rds h4.eo (show vals ρ' [r, r2] = some [d, d2] by simp [vals, e4, e5]))
                cases ex
                exact ⟨d, d2, z, hT, rx, ry, e6, fun v3 H3 n => by
                  obtain ⟨G', h5⟩ := h4.new n
                  exact k _ _ _ _ h5⟩⟩
            unfold sameK at hs
            split at hs
            · obtain ⟨a', vs, rfl, hq, _⟩ := hx.tupD
              exact ⟨"tuple", .inr ⟨rfl, _, _, rfl, hq⟩, rest _ (.inr ⟨rfl, _, rfl⟩)⟩
            · obtain ⟨a', vs, G', rfl, hq, _⟩ := hx.lst
              exact ⟨"list", .inl ⟨rfl, _, _, rfl, .of hq⟩, rest _ (.inl ⟨rfl, fun t z => nomatch z⟩)⟩
            · obtain ⟨a', vs, rfl, hq, _⟩ := hx.roS
              exact ⟨"list", .inl ⟨rfl, _, _, rfl, hq.l⟩, rest _ (.inl ⟨rfl, fun t z => nomatch z⟩)⟩
            · cases hs
        · cases e
      · cases e
    · cases e
  · cases e
theorem tyF_is {X : Cx} {pins : List (Addr × Obj)} {s : Shared} {T : String} {x : V} {u : Value} (I : Inv X pins σ H s) (r : RelV x u) (ty : tyF X.K T x H) :
    s.TypeIs u T ∧ ∀ a, u = .ref a → ∃ ob, s.heap.get? a = some ob ∧ ob.dict = none := by
  rcases ty with ⟨rfl, p, xs, rfl, hq⟩ | ⟨rfl, p, xs, rfl, hq⟩
  · exact tyV_is I r (.inl ⟨rfl, xs, hq⟩)
  · cases r
    obtain ⟨its, _, ht, _⟩ := I.tuple hq.t
    refine ⟨ht.typeIs, fun a e => ?_⟩
    cases e
    exact hq.obj I
/-- a method of lists and of tuples, by values -/
structure MtF (X : Cx) (name : Str) (r : String → V → List V → Hp → VK → Prop) : Prop where
  all : ∀ T, T = "list" ∨ T = "tuple" → ∃ id, PlainAttrs T ∧ Slot T name id ∧ typeOf (.builtin id) = pure (.type "method_descriptor") ∧ MtR X id (r T)
theorem pe_mF {X : Cx} {name : Str} {m : String → V → List V → Hp → VK → Prop} {o e : Expr} {apos cpos : Pos} {to te : TE} (hm : MtF X name m) (ho : PE X o to) (he : PE X e te)
    (hbase : attributeBase o name X.env (eval o X.env) = eval o X.env) (hline : (apos.endLine == cpos.line) = true) (hs : starEach [e] X.env = [(false, eval e X.env)]) :
    PE X (.Call (.Attribute o name apos) [e] [] cpos) (fun σ H Q => to σ H fun x H1 => ∃ T, tyF X.K T x H1 ∧ te σ H1 fun y H2 => m T x [y] H2 Q) := by
  refine ⟨fun pins s σ H Q I h => ?_⟩
  have few : ((backTo cpos (starEach [e] X.env)).all (fun x => !x.1) && (backToKw cpos (keywordEach [] X.env)).all (fun x => x.1.isSome) && decide ([e].length + ([] : List Keyword).length + (if ([] : List Keyword).isEmpty then 0 else 1) < 30)) = true := by
    rw [hs]; rfl
  refine wpAny_Call_method_late hbase few hline rfl (thn (ho.run pins s σ H _ I h) fun v s1 ⟨x, H1, I1, r1, T, ty, q1⟩ => ?_)
  obtain ⟨h1, h2⟩ := tyF_is I1 r1 ty
  obtain ⟨id, pa, sl, hty, hmt⟩ := hm.all T (ty.elim (fun z => .inl z.1) fun z => .inr z.1)
  refine ⟨T, id, pa, sl, hty, h1, h2, ?_⟩
  have hA := (pa_cons he pa_nil (by rw [hs]; rfl)).run cpos pins s1 σ H1 (fun vs H2 => m T x vs H2 Q) I1 q1
  rw [hs] at hA ⊢
  exact Calls.callWith_builtin rfl (Calls.evalArgs_plain (thn hA fun us s2 ⟨vs, H2, I2, r2, q2⟩ => hmt pins s2 σ H2 x vs v us Q I2 r1 r2 q2))

/-! ### displays -/
structure PstO (K : PySem.W.Frag) (β : List Bool) (q : Bool) (σ : L2.St) (ρ : List S) (H : Hp) (F : List Addr) (ds : List D) (ρ' : List S) (vs : List V) (H' : Hp) (F' G : List Addr) : Prop where
  eo : EO K H' β σ ρ' F'
  ow : OWs K H' vs ds G
  nd : ND (F' ++ G)
  st : Step q H F H' (F' ++ G)
  nq : q = true → ∀ a ∈ G, H a = none
  le : q = true → Le ρ ρ'
/-- a result taken over -/
theorem Pst.own {d : D} (h : Pst K β q σ ρ H F r ρ1 v H1 F1 G) (e : PF.own q ρ1 r = some (d, ρ2)) : ∃ F2 G2, EO K H1 β σ ρ2 F2 ∧ OW K H1 v d G2 ∧ ND (F2 ++ G2) ∧ Step q H F H1 (F2 ++ G2) ∧ (q = true → ∀ a ∈ G2, H a = none) ∧ (q = true → Le ρ ρ2) := by
  obtain ⟨eo, rr, nd, st, nq, le⟩ := h
  cases rr with
  | rv o => cases e; exact ⟨F1, G, eo, o, nd, st, nq, le⟩
  | bv o => cases e
  | nm hi =>
    simp only [PF.own] at e
    split at e
    · cases e
    · rename_i hq
      split at e
      · rename_i d' e1
        cases e
        obtain ⟨v', G', F', h1, h2, h3, h4⟩ := eo.val_at e1
        rw [hi] at h1
        cases h1
        refine ⟨F', G', h3, h2, nd.perm fun a => ?_, st.sub fun a ha => ?_, fun z => absurd z hq, fun z => absurd z hq⟩
        · simp only [ct_app]
          have := h4 a
          omega
        · rw [List.append_nil]
          have := mem_ct.mp ha
          have h4 := h4 a
          rw [ct_app] at this
          exact mem_ct.mpr (by omega)
      · cases e
theorem OW.behind {d : D} {F1 G1 A2 : List Addr} (h : OW K H1 v d G1) (nd : ND (F1 ++ G1)) (m : MutF H1 F1) (st : Step q H1 F1 H2 A2) : OW K H2 v d G1 :=
  h.fr st.fr m.ff fun a ha z => nd.apart (FF.sub z) ha
/-- results taken over -/
theorem owns : ∀ {rs : List R} {vs : List V} {ds : List D} {ρ1 ρ2 : List S} {F G : List Addr}, EO K H1 β σ ρ1 F → RRs K H1 σ rs vs G → ownL q ρ1 rs = some (ds, ρ2) →
    ∃ F2 G2, EO K H1 β σ ρ2 F2 ∧ OWs K H1 vs ds G2 ∧ (∀ a : Nat, List.count (α := Nat) a F2 + List.count a G2 = List.count a F + List.count a G) ∧ (q = true → G2 = G ∧ ρ2 = ρ1)
  | [], _, _, _, _, _, _, eo, .nil, e => by
    cases e
    exact ⟨_, [], eo, .nil, fun _ => rfl, fun _ => ⟨rfl, rfl⟩⟩
  | r :: rs, _, _, ρ1, _, F, _, eo, .cons rr hs, e => by
    simp only [ownL] at e
    split at e
    · rename_i d ρ3 e1
      split at e
      · rename_i ds' ρ4 e2
        cases e
        cases rr with
        | rv o =>
          cases e1
          obtain ⟨F2, G2, h1, h2, h3, h4⟩ := owns eo hs e2
          exact ⟨F2, _, h1, .cons o h2, fun a => by rw [ct_app, ct_app]; have := h3 a; omega, fun hq => ⟨by rw [(h4 hq).1], (h4 hq).2⟩⟩
        | bv o => cases e1
        | nm hi =>
          simp only [PF.own] at e1
          split at e1
          · cases e1
          · rename_i hq
            split at e1
            · rename_i d' e3
              cases e1
              obtain ⟨v', G', F', k1, k2, k3, k4⟩ := eo.val_at e3
              rw [hi] at k1
              cases k1
              obtain ⟨F2, G2, h1, h2, h3, h4⟩ := owns k3 hs e2
              exact ⟨F2, _, h1, .cons k2 h2, fun a => by rw [ct_app, List.nil_append]; have := h3 a; have := k4 a; omega, fun z => absurd z hq⟩
            · cases e1
      · cases e
    · cases e
theorem PstL.owns {rs : List R} {ds : List D} {vs : List V} (h : PstL K β q σ ρ H F rs ρ1 vs H1 F1 G) (e : ownL q ρ1 rs = some (ds, ρ2)) : ∃ F2 G2, PstO K β q σ ρ H F ds ρ2 vs H1 F2 G2 := by
  obtain ⟨F2, G2, h1, h2, h3, h4⟩ := PF.owns h.eo h.rr e
  refine ⟨F2, G2, h1, h2, h.nd.perm fun a => ?_, h.st.sub fun a ha => ?_, fun hq => ?_, fun hq => ?_⟩
  · simp only [ct_app]
    have := h3 a
    omega
  · have := mem_ct.mp ha
    have h3 := h3 a
    rw [ct_app] at this
    exact mem_ct.mpr (by rw [ct_app]; omega)
  · rw [(h4 hq).1]; exact h.nq hq
  · rw [(h4 hq).2]; exact h.le hq
/-- laid anew over what is held -/
theorem PstO.lay {ds : List D} {vs : List V} {c : Addr} {o : HO} {d : D} {w : V} {G' : List Addr} (h : PstO K β q σ ρ H F ds ρ' vs H2 F2 G) (hc : H2 c = none) (ow : OWs K (upd H2 c o) vs ds G → OW K (upd H2 c o) w d G') (hG : G' = c :: G ∨ G' = G) :
    Pst K β q σ ρ H F (.rv d) ρ' w (upd H2 c o) F2 G' := by
  have f : Fr H2 (upd H2 c o) [] := Fr.new hc
  have hs : ∀ a ∈ G', a = c ∨ a ∈ G := fun a ha => by
    rcases hG with e | e
    · rw [e] at ha; exact List.mem_cons.mp ha
    · rw [e] at ha; exact .inr ha
  refine ⟨h.eo.fr0 f, .rv (ow (h.ow.fr f .nil fun _ _ z => nomatch z)), fun a => ?_, ⟨fun a ha => ?_, fun a ob e n => f a ob (h.st.fr a ob e n) (fun z => nomatch z)⟩, fun e a ha => ?_, h.le⟩
  · have c0 := h.nd a
    rw [ct_app] at c0 ⊢
    rcases hG with e | e
    · subst e
      rw [List.count_cons]
      split
      · rename_i e
        have e' : c = a := by simpa using e
        subst e'
        have h1 : List.count (α := Nat) c F2 = 0 := List.count_eq_zero.mpr (h.eo.mt.ne hc)
        have h2 : List.count (α := Nat) c G = 0 := List.count_eq_zero.mpr (h.ow.mt.ne hc)
        omega
      · omega
    · rw [e]; exact c0
  · rcases List.mem_append.mp ha with ha | ha
    · exact h.st.nw a (List.mem_append_left _ ha)
    · rcases hs a ha with rfl | ha
      · exact h.st.newer hc
      · exact h.st.nw a (List.mem_append_right _ ha)
  · rcases hs a ha with rfl | ha
    · subst e; exact h.st.q0.oldNone hc
    · exact h.nq e a ha
theorem x_lst {xs : List Ex} {Q : VK} (h : xE Γ K (.lst xs) σ H Q) : xL Γ K xs σ H fun vs H1 => vs.length ≤ sizeLine ∧ ∀ c, H1 c = none → Q (.ref c) (upd H1 c (.lst vs)) := by
  obtain ⟨β, q, ρ, F, x0, ρ', p, e, k⟩ := h
  simp only [ev] at e
  split at e
  · rename_i rs ρ1 e1
    split at e
    · rename_i ds ρ2 e2
      split at e
      · rename_i hl
        cases e
        refine ⟨β, q, ρ, F, rs, ρ1, p, e1, fun vs H1 F0 G0 h0 => ?_⟩
        obtain ⟨F1, G1, h1⟩ := h0.owns e2
        exact ⟨by rw [h1.ow.len, ← LIM_line]; exact hl, fun c hc => k _ _ _ _ (h1.lay hc (fun o => .l upd_same o) (.inl rfl))⟩
      · cases e
    · cases e
  · cases e
theorem OWs.mkTup {a : Addr} {vs : List V} {ds : List D} {o : Obj} (ho : o.dict = none) (h : OWs K (upd H a (.frz o (.tup vs))) vs ds G) : OW K (upd H a (.frz o (.tup vs))) (.ref a) (mkTup ds) G := by
  unfold PF.mkTup
  cases e : pures ds with
  | none => exact .u (.inl ⟨o, upd_same, ho⟩) h
  | some ts =>
    rw [pures_eq e] at h
    obtain ⟨h1, h2⟩ := h.rts
    subst h2
    exact .p (.tup (.inl ⟨o, upd_same, ho⟩) h1)
theorem x_tup {xs : List Ex} {Q : VK} (h : xE Γ K (.tup xs) σ H Q) : xL Γ K xs σ H fun vs H1 => vs.length ≤ sizeLine ∧ ∀ c (o : Obj), H1 c = none → o.dict = none → Q (.ref c) (upd H1 c (.frz o (.tup vs))) := by
  obtain ⟨β, q, ρ, F, x0, ρ', p, e, k⟩ := h
  simp only [ev] at e
  split at e
  · rename_i rs ρ1 e1
    split at e
    · rename_i ds ρ2 e2
      split at e
      · rename_i hl
        cases e
        refine ⟨β, q, ρ, F, rs, ρ1, p, e1, fun vs H1 F0 G0 h0 => ?_⟩
        obtain ⟨F1, G1, h1⟩ := h0.owns e2
        exact ⟨by rw [h1.ow.len, ← LIM_line]; exact hl, fun c o hc ho => k _ _ _ _ (h1.lay hc (fun w => w.mkTup ho) (.inr rfl))⟩
      · cases e
    · cases e
  · cases e
theorem pe_tupF {X : Cx} {es : List Expr} {t : TA} {k : Nat} {pos : Pos} (h : PA X es t) : PE X (.Tuple es k pos) (fun σ H Q => t σ H fun vs H1 => vs.length ≤ sizeLine ∧ ∀ c (o : Obj), H1 c = none → o.dict = none → Q (.ref c) (upd H1 c (.frz o (.tup vs)))) := by
  refine ⟨fun pins s σ H Q I hq => ?_⟩
  refine wpAny_Tuple_spliced (thn (h.run pos pins s σ H _ I hq) fun us s1 ⟨xs, H1, I1, r, z, q⟩ => ⟨by rw [← r.length]; exact z, ?_⟩)
  have hg := Heap.get?_push_size s1.heap (o := { cls := .type "tuple", data := .seq us.toArray }) rfl
  exact ⟨.ref s1.heap.objs.size, _, I1.laid (t' := s1.toks) (o := .frz { cls := .type "tuple", data := .seq us.toArray } (.tup xs)) (fun b u e => Heap.get?_push_of_some _ e) (Nat.le_refl _) ⟨hg, z, us, r, ⟨_, hg, rfl, _, rfl⟩⟩, rfl, q _ _ (I1.hok.fresh (Nat.le_refl _)) rfl⟩
end
end PF

set_option Elab.async false
set_option linter.all false
set_option maxRecDepth 100000
/-! PF11: calls of defs -/
namespace PF
open PySem PySem.Spec PyProof.Rows L2
/-- what comes back in the arguments -/
inductive Bks (K : PySem.W.Frag) (H : Hp) : List V → List (Option D) → List Addr → Prop
  | nil : Bks K H [] [] []
  | some {v : V} {d : D} {G : List Addr} {vs : List V} {os : List (Option D)} {Gs : List Addr} : OW K H v d G → Bks K H vs os Gs → Bks K H (v :: vs) (some d :: os) (G ++ Gs)
  | none {v : V} {vs : List V} {os : List (Option D)} {Gs : List Addr} : Bks K H vs os Gs → Bks K H (v :: vs) (none :: os) Gs
structure PC (K : PySem.W.Frag) (H : Hp) (vs : List V) (Gs : List Addr) (d : D) (os : List (Option D)) (v : V) (H' : Hp) (G Gb : List Addr) : Prop where
  ow : OW K H' v d G
  bk : Bks K H' vs os Gb
  nd : ND (G ++ Gb)
  nw : ∀ a ∈ G ++ Gb, a ∈ Gs ∨ H a = none
  fr : PF.Fr H H' Gs
/-- what a def promises: to answer as c does -/
def spC (K : PySem.W.Frag) (c : CT) : Sp := fun vs H Q _ => ∃ ds Gs d os, OWs K H vs ds Gs ∧ ND Gs ∧ c ds = some (d, os) ∧ ∀ v H' G Gb, PC K H vs Gs d os v H' G Gb → Q v H'
theorem put_comm : ∀ (ρ : List S) {i j : Nat} (a b : S), i ≠ j → put (put ρ i a) j b = put (put ρ j b) i a
  | [], _, _, _, _, _ => rfl
  | _ :: _, 0, 0, _, _, h => absurd rfl h
  | _ :: _, 0, _ + 1, _, _, _ => rfl
  | _ :: _, _ + 1, 0, _, _, _ => rfl
  | x :: r, i + 1, j + 1, a, b, h => congrArg (x :: ·) (put_comm r a b (by omega))
theorem kill_put (ρ : List S) {i : Nat} (s : S) : ∀ {is : List Nat}, i ∉ is → kill (put ρ i s) is = put (kill ρ is) i s
  | [], _ => rfl
  | j :: is, h => by
    have h1 : i ≠ j := fun e => h (by simp [e])
    have h2 : i ∉ is := fun e => h (by simp [e])
    show put (kill (put ρ i s) is) j .no = put (put (kill ρ is) j .no) i s
    rw [kill_put ρ s h2, put_comm _ _ _ h1]
theorem look_kill (ρ : List S) {i : Nat} : ∀ {is : List Nat}, i ∉ is → look (kill ρ is) i = look ρ i
  | [], _ => rfl
  | j :: is, h => by
    have h1 : i ≠ j := fun e => h (by simp [e])
    have h2 : i ∉ is := fun e => h (by simp [e])
    show look (put (kill ρ is) j .no) i = _
    rw [look_put_ne _ _ h1, look_kill ρ h2]
section
variable {K : PySem.W.Frag} {H H1 H2 : Hp} {β : List Bool} {σ : L2.St} {ρ ρ' ρ1 ρ2 : List S} {F F1 F2 A G : List Addr} {q q' : Bool} {r : R} {v : V} {Γ : List CT}
theorem nodupB_cons {i : Nat} {is : List Nat} (h : nodupB (i :: is) = true) : i ∉ is ∧ nodupB is = true := by
  simp only [nodupB, Bool.and_eq_true, Bool.not_eq_true', List.contains_eq_mem, decide_eq_false_iff_not] at h
  exact h
/-- the arguments taken out of the places -/
theorem RRs.take {rs : List R} {vs : List V} (h : RRs K H σ rs vs G) (eo : EO K H β σ ρ F) : ∀ {ds : List D}, vals ρ rs = some ds → nodupB (nms rs) = true → (∀ d, R.bv d ∉ rs) →
    ∃ Gs F0, OWs K H vs ds Gs ∧ EO K H β σ (kill ρ (nms rs)) F0 ∧ ∀ a : Nat, List.count (α := Nat) a Gs + List.count a F0 = List.count a G + List.count a F := by
  induction h with
  | nil => intro ds e _ _; cases e; exact ⟨[], F, .nil, eo, fun a => rfl⟩
  | @cons r v G0 rs vs Gs0 h hs ih =>
    intro ds e nd nb
    simp only [vals] at e
    split at e
    · rename_i d ds' e1 e2
      cases e
      cases h with
      | rv o =>
        obtain ⟨Gs, F0, h1, h2, h3⟩ := ih e2 nd fun d z => nb d (List.mem_cons_of_mem _ z)
        cases e1
        exact ⟨_, F0, .cons o h1, h2, fun a => by rw [ct_app, ct_app]; have := h3 a; omega⟩
      | bv o => exact absurd List.mem_cons_self (nb _)
      | @nm i _ hi =>
        obtain ⟨n1, n2⟩ := nodupB_cons nd
        obtain ⟨Gs, F0, h1, h2, h3⟩ := ih e2 n2 fun d z => nb d (List.mem_cons_of_mem _ z)
        simp only [valR] at e1
        split at e1
        · rename_i d' e3
          cases e1
          rw [← look_kill ρ n1] at e3
          obtain ⟨v', G', F', k1, k2, k3, k4⟩ := h2.val_at e3
          rw [hi] at k1
          cases k1
          exact ⟨_, F', .cons k2 h1, k3, fun a => by rw [ct_app, ct_app]; have := h3 a; have := k4 a; simp only [List.count_nil]; omega⟩
        · cases e1
    · cases e
theorem RRs.temps {rs : List R} {vs : List V} (h : RRs K H σ rs vs G) : ∀ {ds : List D}, vals ρ rs = some ds → nms rs = [] → (∀ d, R.bv d ∉ rs) → OWs K H vs ds G := by
  induction h with
  | nil => intro ds e _ _; cases e; exact .nil
  | @cons r v G0 rs vs Gs0 h hs ih =>
    intro ds e nd nb
    simp only [vals] at e
    split at e
    · rename_i d ds' e1 e2
      cases e
      cases h with
      | rv o =>
        cases e1
        exact .cons o (ih e2 nd fun d z => nb d (List.mem_cons_of_mem _ z))
      | bv o => exact absurd List.mem_cons_self (nb _)
      | nm hi => cases nd
    · cases e
theorem back_nobv : ∀ {rs : List R} {os : List (Option D)} {ρ ρ' : List S}, back ρ rs os = some ρ' → ∀ d, R.bv d ∉ rs
  | [], _, _, _, _, d => by simp
  | .nm i :: rs, [], _, _, e, d => by cases e
  | .nm i :: rs, some x :: os, ρ, _, e, d => fun z => by
    rcases List.mem_cons.mp z with z | z
    · cases z
    · exact back_nobv (rs := rs) (os := os) (show back (put ρ i (.val x)) rs os = some _ from e) d z
  | .nm i :: rs, none :: os, ρ, _, e, d => fun z => by
    rcases List.mem_cons.mp z with z | z
    · cases z
    · exact back_nobv (rs := rs) (os := os) (show back (put ρ i .no) rs os = some _ from e) d z
  | .rv x :: rs, [], _, _, e, d => by cases e
  | .rv x :: rs, o :: os, _, _, e, d => fun z => by
    rcases List.mem_cons.mp z with z | z
    · cases z
    · exact back_nobv (rs := rs) e d z
  | .bv x :: rs, [], _, _, e, d => by cases e
  | .bv x :: rs, o :: os, _, _, e, d => by cases e
theorem back_nonm : ∀ {rs : List R} {os : List (Option D)} {ρ ρ' : List S}, back ρ rs os = some ρ' → nms rs = [] → ρ' = ρ
  | [], _, _, _, e, _ => by cases e; rfl
  | .nm i :: rs, _, _, _, e, n => by cases n
  | .rv x :: rs, [], _, _, e, n => by cases e
  | .rv x :: rs, o :: os, _, _, e, n => back_nonm (rs := rs) (os := os) e n
  | .bv x :: rs, [], _, _, e, n => by cases e
  | .bv x :: rs, o :: os, _, _, e, n => by cases e
/-- the arguments put back -/
theorem back_ok {H3 : Hp} : ∀ {rs : List R} {vs : List V} {os : List (Option D)} {ρ ρ' : List S} {G Gb F0 : List Addr}, RRs K H σ rs vs G → Bks K H3 vs os Gb → back ρ rs os = some ρ' → nodupB (nms rs) = true → EO K H3 β σ (kill ρ (nms rs)) F0 →
    ∃ F2, EO K H3 β σ ρ' F2 ∧ ∀ a : Nat, List.count (α := Nat) a F2 ≤ List.count a F0 + List.count a Gb
  | [], _, _, _, _, _, _, _, .nil, _, e, _, eo => by cases e; exact ⟨_, eo, fun a => by omega⟩
  | .rv x :: rs, _, _, _, _, _, _, _, .cons _ hs, .some o b, e, nd, eo => by
    obtain ⟨F2, h1, h2⟩ := back_ok (rs := rs) hs b e nd eo
    exact ⟨F2, h1, fun a => by rw [ct_app]; have := h2 a; omega⟩
  | .rv x :: rs, _, _, _, _, _, _, _, .cons _ hs, .none b, e, nd, eo => back_ok (rs := rs) hs b e nd eo
  | .bv x :: rs, _, _, _, _, _, _, _, .cons _ hs, .some o b, e, nd, eo => by cases e
  | .bv x :: rs, _, _, _, _, _, _, _, .cons _ hs, .none b, e, nd, eo => by cases e
  | .nm i :: rs, _, _, ρ, _, _, _, _, .cons (.nm hi) hs, .some (d := d) o b, e, nd, eo => by
    obtain ⟨n1, n2⟩ := nodupB_cons nd
    have hlen : i < σ.length := (List.getElem?_eq_some_iff.mp hi).1
    have eo1 : EO K H3 β σ (put (kill ρ (nms rs)) i .no) _ := eo
    have hl : i < (kill ρ (nms rs)).length := by have := eo1.len; rw [put_len] at this; omega
    obtain ⟨F', h1, h2⟩ := eo1.fill (look_put _ _ _ hl) hi o
    rw [put_put, ← kill_put ρ _ n1] at h2
    obtain ⟨F2, h3, h4⟩ := back_ok (rs := rs) hs b (show back (put ρ i (.val d)) rs _ = some _ from e) n2 h2
    exact ⟨F2, h3, fun a => by rw [ct_app]; have := h4 a; have := h1 a; omega⟩
  | .nm i :: rs, _, _, ρ, _, _, _, _, .cons (.nm hi) hs, .none b, e, nd, eo => by
    obtain ⟨n1, n2⟩ := nodupB_cons nd
    have eo1 : EO K H3 β σ (put (kill ρ (nms rs)) i .no) _ := eo
    rw [← kill_put ρ _ n1] at eo1
    exact back_ok (rs := rs) hs b (show back (put ρ i .no) rs _ = some _ from e) n2 eo1
theorem x_call {k : Nat} {es : List Ex} {Q : VK} {E : XK} (h : xE Γ K (.call k es) σ H Q) : xL Γ K es σ H fun vs H1 => ∃ c, Γ[k]? = some c ∧ spC K c vs H1 Q E := by
  obtain ⟨β, q, ρ, F, x0, ρ', p, e, kk⟩ := h
  simp only [ev] at e
  split at e
  · rename_i rs ρ1 e1
    split at e
    · rename_i c e2
      unfold callD at e
      split at e
      · cases e
      · rename_i ds e3
        split at e
        · rename_i hq
          split at e
          · rename_i d os e4
            cases e5 : back ρ1 rs os with
            | none => rw [e5] at e; cases e
            | some ρ9 =>
              rw [e5] at e
              cases e
              simp only [Bool.and_eq_true, Bool.or_eq_true, Bool.not_eq_true', List.isEmpty_iff] at hq
              obtain ⟨hnd, hq⟩ := hq
              refine ⟨β, q, ρ, F, rs, ρ1, p, e1, fun vs H1 F1 G1 h1 => ⟨c, e2, ?_⟩⟩
              cases q with
              | true =>
                have hn : nms rs = [] := by simpa using hq
                have ow := h1.rr.temps e3 hn (back_nobv e5)
                have e6 := back_nonm e5 hn
                subst e6
                refine ⟨ds, G1, d, os, ow, h1.nd.right, e4, fun v H2 G Gb pc => ?_⟩
                have f0 : Fr H H2 [] := fun a o ea _ => pc.fr a o (h1.st.q0 a o ea (fun z => nomatch z)) fun z => by
                  have := h1.nq rfl a z
                  rw [this] at ea; cases ea
                obtain ⟨F2, s2, eo2⟩ := p.eo.le (h1.le rfl)
                have nG : ∀ a ∈ G, H a = none := fun a ha => by
                  rcases pc.nw a (List.mem_append_left _ ha) with z | z
                  · exact h1.nq rfl a z
                  · exact h1.st.q0.oldNone z
                refine kk v H2 F2 G ⟨eo2.fr0 f0, .rv pc.ow, fun a => ?_, ⟨fun a ha => ?_, f0⟩, fun _ => nG, h1.le⟩
                · have c1 := p.nd.sb s2 a
                  have c2 := pc.nd.left a
                  rw [ct_app]
                  by_cases hg : a ∈ G
                  · have : List.count (α := Nat) a F2 = 0 := List.count_eq_zero.mpr (eo2.mt.ne (nG a hg))
                    omega
                  · have : List.count (α := Nat) a G = 0 := List.count_eq_zero.mpr hg
                    omega
                · rcases List.mem_append.mp ha with ha | ha
                  · exact .inl (s2.mem ha)
                  · exact .inr (nG a ha)
              | false =>
                obtain ⟨Gs, F0, ow, eo, hc⟩ := h1.rr.take h1.eo e3 hnd (back_nobv e5)
                have nd0 : ND (Gs ++ F0) := h1.nd.perm fun a => by rw [ct_app, ct_app]; have := hc a; omega
                have sub : ∀ a, a ∈ Gs ++ F0 → a ∈ F1 ++ G1 := fun a ha => by
                  have z := mem_ct.mp ha
                  rw [ct_app] at z
                  have := hc a
                  refine mem_ct.mpr ?_
                  rw [ct_app]
                  omega
                refine ⟨ds, Gs, d, os, ow, nd0.left, e4, fun v H2 G Gb pc => ?_⟩
                have eo3 : EO K H2 β σ (kill ρ1 (nms rs)) F0 := eo.fr pc.fr ow.mt (p.nb rfl) fun a ha z => nd0.apart z ha
                obtain ⟨F2, eo4, c4⟩ := back_ok h1.rr pc.bk e5 hnd eo3
                have nd5 : ND ((G ++ Gb) ++ F0) := nd0.keep eo.mt pc.nd pc.nw
                have st : Step false H F H2 ((G ++ Gb) ++ F0) := by
                  refine ⟨fun a ha => ?_, fun a o ea n => ?_⟩
                  · rcases List.mem_append.mp ha with ha | ha
                    · rcases pc.nw a ha with z | z
                      · exact h1.st.nw a (sub a (List.mem_append_left _ z))
                      · exact h1.st.newer z
                    · exact h1.st.nw a (sub a (List.mem_append_right _ ha))
                  · refine pc.fr a o (h1.st.fr a o ea n) fun z => ?_
                    rcases h1.st.nw a (sub a (List.mem_append_left _ z)) with w | w
                    · exact n w
                    · rw [w] at ea; cases ea
                refine kk v H2 F2 G ⟨eo4, .rv pc.ow, nd5.perm fun a => ?_, st.sub fun a ha => ?_, (fun z => nomatch z), fun z => nomatch z⟩
                · rw [ct_app, ct_app, ct_app]; have := c4 a; omega
                · have z := mem_ct.mp ha
                  rw [ct_app] at z
                  have := c4 a
                  refine mem_ct.mpr ?_
                  rw [ct_app, ct_app]
                  omega
          · cases e
        · cases e
    · cases e
  · cases e
end
end PF

set_option Elab.async false
set_option linter.all false
set_option maxRecDepth 100000
/-! PF12: what is walked, and comprehensions -/
namespace PF
open PySem PySem.Spec PyProof.Rows L2

def ItK (k : Bool) (K : PySem.W.Frag) (a : Addr) : It := if k = true then Itl K a else Itt K a
/-- a list or a tuple -/
def iSeq (K : PySem.W.Frag) (te : TE) : TI := fun σ H R => te σ H fun x H1 => ∃ k a xs, x = .ref a ∧ SqK k K H1 a xs ∧ R (ItK k K a) H1
theorem pi_seq {X : Cx} {tg e : Expr} {te : TE} (he : PE X e te) : PI X tg e (iSeq X.K te) := by
  refine ⟨fun pins s σ H R I h => thn (he.run pins s σ H _ I h) fun v s1 ⟨x, H1, I1, r1, k, a, xs, ex, hq, q⟩ => ?_⟩
  subst ex
  cases r1
  have here : ∀ b ∈ [s1.heap.objs.size], FpOk X pins H1 b := fun b hb => by
    rw [List.mem_singleton.mp hb]
    exact I1.fpOk (Nat.le_refl _) (I1.hok.fresh (Nat.le_refl _))
  cases k with
  | true =>
    obtain ⟨its, rv, p, _⟩ := I1.list (show SqL X.K H1 a xs from hq)
    exact wpAny_pyIter_list p.isList ⟨s1.heap.objs.size, [s1.heap.objs.size], _, _, H1, rfl, I1.kept (t' := s1.toks) (fun b o e => Heap.get?_push_of_some _ e), turn_list a _, ⟨_, Heap.get?_push_size _ rfl, rfl, rfl⟩, here, q⟩
  | false =>
    obtain ⟨its, rv, p, _⟩ := I1.tuple (show SqT X.K H1 a xs from hq)
    exact wpAny_pyIter_tuple (show s1.heap.IsTuple a its.toArray from p) ⟨s1.heap.objs.size, [s1.heap.objs.size], _, _, H1, rfl, I1.kept (t' := s1.toks) (fun b o e => Heap.get?_push_of_some _ e), turn_tuple a _, ⟨_, Heap.get?_push_size _ rfl, rfl, rfl⟩, here, q⟩

/-! ### what is walked, and its items -/
section
variable {K : PySem.W.Frag} {H H1 H2 : Hp} {β : List Bool} {σ σ' : L2.St} {ρ ρ' ρ1 ρ2 : List S} {F F1 F2 A G : List Addr} {q q' : Bool} {r : R} {v : V} {Γ : List CT}
inductive SW (K : PySem.W.Frag) (H : Hp) (σ : L2.St) : Sq → Bool → Addr → List Addr → Prop
  | tup {ts : List T} {a : Addr} {vs : List V} : SqD K H a vs → RTs K H vs ts → SW K H σ (.fix ts) false a []
  | ro {ts : List T} {a : Addr} {vs : List V} : SqF K H a vs → RTs K H vs ts → SW K H σ (.fix ts) true a []
  | tmp {ts : List T} {a : Addr} {vs : List V} : H a = some (.lst vs) → RTs K H vs ts → SW K H σ (.fix ts) true a [a]
  | live {i n : Nat} {a : Addr} : σ[i]? = some (some (.ref a)) → SW K H σ (.live i n) true a []
theorem SW.fr {F0 : List Addr} {w : Sq} {k : Bool} {a : Addr} (h : SW K H σ w k a G) (f : Fr H H1 F0) (m : MutF H F0) (ap : ∀ a ∈ G, a ∉ F0) : SW K H1 σ w k a G := by
  cases h with
  | tup h1 h2 => exact .tup (f.sqD m h1) (h2.fr f m)
  | ro h1 h2 => exact .ro (f.sqF m h1) (h2.fr f m)
  | tmp h1 h2 => exact .tmp (f _ _ h1 (ap _ List.mem_cons_self)) (h2.fr f m)
  | live h1 => exact .live h1
theorem SW.mt {w : Sq} {k : Bool} {a : Addr} (h : SW K H σ w k a G) : MutF H G := by
  cases h with
  | @tmp ts a vs h1 h2 =>
    intro b hb
    have e := List.mem_singleton.mp hb
    subst e
    exact ⟨.lst vs, h1, trivial⟩
  | _ => exact .nil
/-- names' values that are known in one are so in the other -/
def Less (σ' σ : L2.St) : Prop := ∀ (i : Nat) (v : V), σ'[i]? = some (some v) → σ[i]? = some (some v)
theorem EO.live {σ : L2.St} {i n : Nat} {a : Addr} (eo : EO K H β σ' ρ F) (l : Less σ' σ) (hi : σ[i]? = some (some (.ref a))) {ds : List D} (e : look ρ i = .val (.l ds)) : ∃ vs G, H a = some (.lst vs) ∧ OWs K H vs ds G := by
  obtain ⟨v, G, F', h1, h2, _⟩ := eo.val_at e
  have h3 := l _ _ h1
  rw [hi] at h3
  cases h3
  cases h2 with
  | l h4 h5 => exact ⟨_, _, h4, h5⟩
theorem SW.item {w : Sq} {k : Bool} {a : Addr} {t : T} {i : Nat} (h : SW K H σ w k a G) (eo : EO K H β σ' ρ F) (l : Less σ' σ) (e : w.at ρ i = some t) : ∃ vs x, SqK k K H a vs ∧ vs[i]? = some x ∧ RT K H x t := by
  cases h with
  | tup h1 h2 => obtain ⟨x, h3, h4⟩ := h2.get e; exact ⟨_, x, h1.t, h3, h4⟩
  | ro h1 h2 => obtain ⟨x, h3, h4⟩ := h2.get e; exact ⟨_, x, h1.l, h3, h4⟩
  | tmp h1 h2 => obtain ⟨x, h3, h4⟩ := h2.get e; exact ⟨_, x, SqL.of h1, h3, h4⟩
  | @live j n a h1 =>
    simp only [Sq.at, liveAt] at e
    split at e
    · rename_i t' e1
      cases e
      split at e1
      · rename_i ds e2
        split at e1
        · obtain ⟨vs, G, h3, h4⟩ := eo.live (n := n) l h1 e2
          obtain ⟨x, G', h5, h6, _⟩ := h4.get e1
          cases h6 with
          | p h6 => exact ⟨vs, x, SqL.of h3, h5, h6⟩
        · cases e1
      · cases e1
    · cases e
theorem SW.stop {w : Sq} {k : Bool} {a : Addr} (h : SW K H σ w k a G) (eo : EO K H β σ' ρ F) (l : Less σ' σ) (e : w.ok ρ = true) : ∃ vs, SqK k K H a vs ∧ vs.length = w.len := by
  cases h with
  | tup h1 h2 => exact ⟨_, h1.t, h2.len⟩
  | ro h1 h2 => exact ⟨_, h1.l, h2.len⟩
  | tmp h1 h2 => exact ⟨_, SqL.of h1, h2.len⟩
  | @live j n a h1 =>
    simp only [Sq.ok] at e
    split at e
    · rename_i ds e2
      obtain ⟨vs, G, h3, h4⟩ := eo.live (n := n) l h1 e2
      exact ⟨vs, SqL.of h3, by rw [h4.len]; exact of_decide_eq_true e⟩
    · cases e
theorem SqK.uni {X : Cx} {pins : List (Addr × Obj)} {s : Shared} {k : Bool} {a : Addr} {xs ys : List V} (I : Inv X pins σ H s) (h : SqK k X.K H a xs) (h2 : SqK k X.K H a ys) : xs = ys := SqK.inj I h h2
/-- the walk J goes as w says -/
inductive JW (K : PySem.W.Frag) (H : Hp) (σ : L2.St) : It → Wk → List Addr → Prop
  | one {a : Sq} {k : Bool} {p : Addr} {G : List Addr} : SW K H σ a k p G → JW K H σ (ItK k K p) (.one a) G
  | enum {a : Sq} {k : Bool} {p : Addr} {G : List Addr} : SW K H σ a k p G → JW K H σ (IteG k K p) (.enum a) G
  | zip {a b : Sq} {k k2 : Bool} {p p2 : Addr} {G G2 : List Addr} : SW K H σ a k p G → SW K H σ b k2 p2 G2 → JW K H σ (ItzG k k2 K p p2) (.zip a b) (G ++ G2)
  | rng {lo : Int} {n : Nat} : JW K H σ (Itr lo n) (.rng lo n) []
  | lent {p : Addr} {vs : List V} {ds : List D} {G : List Addr} : H p = some (.lst vs) → OWs K H vs ds G → JW K H σ (Itl K p) (.lent ds) []
theorem JW.fr {F0 : List Addr} {J : It} {w : Wk} (h : JW K H σ J w G) (f : Fr H H1 F0) (m : MutF H F0) (ap : ∀ a ∈ G, a ∉ F0) (l : w.isLent = true → F0 = []) : JW K H1 σ J w G := by
  cases h with
  | one h => exact .one (h.fr f m ap)
  | enum h => exact .enum (h.fr f m ap)
  | zip h1 h2 => exact .zip (h1.fr f m fun a ha => ap a (List.mem_append_left _ ha)) (h2.fr f m fun a ha => ap a (List.mem_append_right _ ha))
  | rng => exact .rng
  | lent h1 h2 =>
    have e := l rfl
    subst e
    exact .lent (f _ _ h1 fun z => nomatch z) (h2.fr f .nil fun _ _ z => nomatch z)
theorem JW.mt {J : It} {w : Wk} (h : JW K H σ J w G) : MutF H G := by
  cases h with
  | one h => exact h.mt
  | enum h => exact h.mt
  | zip h1 h2 => exact h1.mt.app h2.mt
  | rng => exact .nil
  | lent h1 h2 => exact .nil
theorem newPair {T : Addr} {o : Obj} {x y : V} {t u : PF.T} (hT : H T = none) (ho : o.dict = none) (hx : RT K H x t) (hy : RT K H y u) : NewV K H (.ref T) (.p (.tup [t, u])) (upd H T (.frz o (.tup [x, y]))) :=
  .tup hT ho (.cons hx (.cons hy .nil))
theorem SqK.at_ {k : Bool} {a : Addr} {vs : List V} (h : SqK k K H a vs) {P : List V → Prop} (i : ∀ xs, SqK k K H a xs → P xs) : P vs := i vs h
theorem JW.turn {J : It} {w : Wk} {i : Nat} {d : D} (h : JW K H σ J w G) (eo : EO K H β σ' ρ F) (l : Less σ' σ) (e : w.at ρ i = some d) :
    J.go i H ∧ ∀ x H', J.yld i H x H' → (w.isLent = false → NewV K H x d H') ∧ (w.isLent = true → H' = H ∧ ∃ G', OW K H x d G') := by
  cases h with
  | @one a k p _ h =>
    simp only [Wk.at] at e
    cases e1 : a.at ρ i with
    | none => rw [e1] at e; cases e
    | some t =>
      rw [e1] at e; cases e
      obtain ⟨vs, x, h1, h2, h3⟩ := h.item eo l e1
      cases k with
      | true =>
        refine ⟨⟨vs, x, h1, h2⟩, fun y H' ⟨e2, h4⟩ => ⟨fun _ => ?_, fun z => nomatch z⟩⟩
        have := h4 vs h1
        rw [h2] at this
        cases this
        rw [e2]
        exact .p h3
      | false =>
        refine ⟨⟨vs, x, h1, h2⟩, fun y H' ⟨e2, h4⟩ => ⟨fun _ => ?_, fun z => nomatch z⟩⟩
        have := h4 vs h1
        rw [h2] at this
        cases this
        rw [e2]
        exact .p h3
  | @enum a k p _ h =>
    simp only [Wk.at] at e
    cases e1 : a.at ρ i with
    | none => rw [e1] at e; cases e
    | some t =>
      rw [e1] at e; cases e
      obtain ⟨vs, x, h1, h2, h3⟩ := h.item eo l e1
      refine ⟨⟨vs, x, h1, h2⟩, fun y H' ⟨T, x', o, e2, hT, ho, e3, h4⟩ => ⟨fun _ => ?_, fun z => nomatch z⟩⟩
      have := h4 vs h1
      rw [h2] at this
      cases this
      rw [e2, e3]
      exact newPair hT ho (.int _) h3
  | @zip a b k k2 p p2 G1 G2 h h' =>
    simp only [Wk.at] at e
    split at e
    · rename_i t u e1 e2
      split at e
      · cases e
        obtain ⟨vs, x, h1, h2, h3⟩ := h.item eo l e1
        obtain ⟨ws, y, h5, h6, h7⟩ := h'.item eo l e2
        refine ⟨⟨vs, ws, x, y, h1, h5, h2, h6⟩, fun z H' ⟨T, x', y', o, e2, hT, ho, e3, h4, h8⟩ => ⟨fun _ => ?_, fun z => nomatch z⟩⟩
        have e4 := h4 vs h1
        have e5 := h8 ws h5
        rw [h2] at e4
        rw [h6] at e5
        cases e4
        cases e5
        rw [e2, e3]
        exact newPair hT ho h3 h7
      · cases e
    · cases e
  | rng =>
    simp only [Wk.at] at e
    split at e
    · rename_i hl
      cases e
      refine ⟨hl, fun x H' ⟨e2, e3⟩ => ⟨fun _ => ?_, fun z => nomatch z⟩⟩
      rw [e2, e3]
      exact .int _
    · cases e
  | @lent p vs ds G h1 h2 =>
    have e : ds[i]? = some d := e
    obtain ⟨x, G', h3, h4, _⟩ := h2.get e
    refine ⟨⟨vs, x, .of h1, h3⟩, fun y H' ⟨e2, h5⟩ => ⟨fun z => (nomatch z), fun _ => ⟨e2, G', ?_⟩⟩⟩
    have := h5 vs (.of h1)
    rw [h3] at this
    cases this
    exact h4
theorem JW.stop {J : It} {w : Wk} (h : JW K H σ J w G) (eo : EO K H β σ' ρ F) (l : Less σ' σ) (e : w.ok ρ = true) : J.stop w.len H := by
  cases h with
  | @one a k p _ h =>
    obtain ⟨vs, h1, h2⟩ := h.stop eo l e
    cases k with
    | true => exact ⟨vs, h1, Nat.le_of_eq h2⟩
    | false => exact ⟨vs, h1, Nat.le_of_eq h2⟩
  | @enum a k p _ h =>
    obtain ⟨vs, h1, h2⟩ := h.stop eo l e
    exact ⟨vs, h1, h2⟩
  | @zip a b k k2 p p2 G1 G2 h h' =>
    simp only [Wk.ok, Bool.and_eq_true] at e
    obtain ⟨vs, h1, h2⟩ := h.stop eo l e.1
    obtain ⟨ws, h3, h4⟩ := h'.stop eo l e.2
    refine ⟨vs, ws, h1, h3, ?_, ?_, ?_⟩
    · show min a.len b.len ≤ _; omega
    · show min a.len b.len ≤ _; omega
    · show vs.length = min a.len b.len ∨ ws.length = min a.len b.len; omega
  | rng => exact Nat.le_refl _
  | @lent p vs ds G h1 h2 => exact ⟨vs, .of h1, Nat.le_of_eq h2.len⟩

/-! ### the sources -/
theorem sq_of {w : Sq} (h : RR K H σ r v G) (eo : EO K H β σ ρ F) (e : sqOf ρ r = some w) : ∃ k p G', v = .ref p ∧ SW K H σ w k p G' ∧ Sb G' G ∧ ∃ xs, SqK k K H p xs := by
  unfold sqOf at e
  split at e
  · cases e
    cases h with
    | rv o =>
      obtain ⟨a, vs, rfl, h1, h2⟩ := Rd.tupD ⟨_, o⟩
      exact ⟨false, a, [], rfl, .tup h1 h2, fun a => by simp, vs, h1.t⟩
  · cases e
    cases h with
    | rv o =>
      obtain ⟨a, vs, rfl, h1, h2⟩ := Rd.roS ⟨_, o⟩
      exact ⟨true, a, [], rfl, .ro h1 h2, fun a => by simp, vs, h1.l⟩
  · rename_i ds
    cases e1 : pures ds with
    | none => rw [e1] at e; cases e
    | some ts =>
      rw [e1] at e; cases e
      cases h with
      | rv o =>
        cases o with
        | @l a vs ds G0 h1 h2 =>
          rw [pures_eq e1] at h2
          obtain ⟨h3, h4⟩ := h2.rts
          subst h4
          exact ⟨true, a, [a], rfl, .tmp h1 h3, Sb.refl _, vs, SqL.of h1⟩
  · rename_i i
    split at e
    · rename_i ts e1
      cases e
      cases h with
      | nm hi =>
        obtain ⟨v', G', F', h1, h2, _⟩ := eo.val_at e1
        rw [hi] at h1
        cases h1
        obtain ⟨a, vs, rfl, h1, h2⟩ := Rd.roS ⟨_, h2⟩
        exact ⟨true, a, [], rfl, .ro h1 h2, fun a => by simp, vs, h1.l⟩
    · rename_i ds e1
      cases e2 : pures ds with
      | none => rw [e2] at e; cases e
      | some ts =>
        rw [e2] at e; cases e
        cases h with
        | nm hi =>
          obtain ⟨v', G', F', h1, h2, _⟩ := eo.val_at e1
          rw [hi] at h1
          cases h1
          cases h2 with
          | @l a vs _ G0 h1 h2 => exact ⟨true, a, [], rfl, .live hi, fun a => by simp, vs, SqL.of h1⟩
    · cases e
  · cases e
theorem src_l {w : Wk} (h : RR K H σ r v G) (eo : EO K H β σ ρ F) (e : srcL ρ r = some w) : ∃ p xs, v = .ref p ∧ JW K H σ (Itl K p) w [] ∧ SqL K H p xs := by
  unfold srcL at e
  have fin : ∀ {ds : List D} {G : List Addr}, OW K H v (.l ds) G → ∃ p xs, v = .ref p ∧ JW K H σ (Itl K p) (.lent ds) [] ∧ SqL K H p xs := fun {ds G} o => by
    cases o with
    | l h1 h2 => exact ⟨_, _, rfl, .lent h1 h2, .of h1⟩
  split at e
  · cases e
    cases h with
    | rv o => exact fin o
  · split at e
    · rename_i ds e1
      cases e
      cases h with
      | nm hi =>
        obtain ⟨v', G', F', h1, h2, _⟩ := eo.val_at e1
        rw [hi] at h1
        cases h1
        exact fin h2
    · cases e
  · cases e
    cases h with
    | bv o => exact fin o
  · cases e
def xI (Γ : List CT) (K : PySem.W.Frag) : Nat → List Ex → TI
  | 0, [e] => iSeq K (xE Γ K e)
  | 1, es => iRng1 (xL Γ K es)
  | 2, es => iRng2 (xL Γ K es)
  | 3, es => iEnumG K (xL Γ K es)
  | 4, es => iZipG K (xL Γ K es)
  | _, _ => fun _ _ _ => False
theorem rngOk_of {a b : Int} (h : rngOk a b = true) : -(2 ^ 62) ≤ a ∧ a < 2 ^ 62 ∧ -(2 ^ 62) ≤ b ∧ b < 2 ^ 62 := by
  unfold rngOk at h
  simp only [Bool.and_eq_true, decide_eq_true_eq] at h
  exact ⟨h.1.1.1, h.1.1.2, h.1.2, h.2⟩
/-- behind the source -/
structure PstS (K : PySem.W.Frag) (β : List Bool) (q : Bool) (σ : L2.St) (ρ : List S) (H : Hp) (F : List Addr) (w : Wk) (ρ' : List S) (J : It) (H' : Hp) (F' G : List Addr) : Prop where
  eo : EO K H' β σ ρ' F'
  jw : JW K H' σ J w G
  nd : ND (F' ++ G)
  st : Step q H F H' (F' ++ G)
  le : q = true → Le ρ ρ'
theorem one_rr {rs : List R} {vs : List V} {r : R} (h : RRs K H σ [r] vs G) : ∃ v, vs = [v] ∧ RR K H σ r v G := by
  cases h with
  | cons h t => cases t; rw [List.append_nil]; exact ⟨_, rfl, h⟩
theorem two_rr {vs : List V} {r r2 : R} (h : RRs K H σ [r, r2] vs G) : ∃ v u G1 G2, vs = [v, u] ∧ RR K H σ r v G1 ∧ RR K H σ r2 u G2 ∧ G = G1 ++ G2 := by
  cases h with
  | cons h t =>
    obtain ⟨u, rfl, h2⟩ := one_rr (rs := []) t
    exact ⟨_, _, _, _, rfl, h, h2, rfl⟩
theorem PstL.src {rs : List R} {vs : List V} {J : It} {w : Wk} {G' : List Addr} (h : PstL K β q σ ρ H F rs ρ1 vs H1 F1 G) (j : JW K H1 σ J w G') (s : Sb G' G) : PstS K β q σ ρ H F w ρ1 J H1 F1 G' :=
  ⟨h.eo, j, h.nd.perm fun a => by rw [ct_app, ct_app]; have := s a; omega, h.st.sub fun a ha => by
    rcases List.mem_append.mp ha with ha | ha
    · exact List.mem_append_left _ ha
    · exact List.mem_append_right _ (s.mem ha), h.le⟩
theorem x_src {kind : Nat} {src : List Ex} {rs : List R} {w : Wk} {R0 : It → Hp → Prop} (p : Pre K β q σ ρ H F) (e : evL Γ q src ρ = some (rs, ρ1)) (ek : srcK ρ1 kind rs = some w)
    (k : ∀ J H1 F1 G, PstS K β q σ ρ H F w ρ1 J H1 F1 G → R0 J H1) : xI Γ K kind src σ H R0 := by
  have lenL : ∀ {xs : List Ex} {q : Bool} {ρ ρ1 : List S} {rs : List R}, evL Γ q xs ρ = some (rs, ρ1) → xs.length = rs.length := by
    intro xs
    induction xs with
    | nil => intro q ρ ρ1 rs e; cases e; rfl
    | cons x xs ih =>
      intro q ρ ρ1 rs e
      simp only [evL] at e
      split at e
      · split at e
        · rename_i e2
          cases e
          exact congrArg (· + 1) (ih e2)
        · cases e
      · cases e
  have hl := lenL e
  unfold srcK at ek
  split at ek
  · rename_i r
    obtain ⟨x, rfl⟩ : ∃ x, src = [x] := by
      cases src with
      | nil => cases hl
      | cons x t => cases t with
        | nil => exact ⟨x, rfl⟩
        | cons _ _ => simp at hl
    refine xL_one (Q := fun vs H1 => ∃ k a xs, vs = [.ref a] ∧ SqK k K H1 a xs ∧ R0 (ItK k K a) H1) ⟨β, q, ρ, F, [r], ρ1, p, e, fun vs H1 F1 G1 h1 => ?_⟩ |>.mono fun v H1 ⟨k, a, xs, e1, h⟩ => ?_
    · obtain ⟨v, rfl, rr⟩ := one_rr (rs := []) h1.rr
      split at ek
      · rename_i a e1
        cases ek
        obtain ⟨k', p', G', rfl, sw, sb, xs, hs⟩ := sq_of rr h1.eo e1
        exact ⟨k', p', xs, rfl, hs, k _ _ _ _ (h1.src (.one sw) sb)⟩
      · obtain ⟨p', xs, rfl, jw, hs⟩ := src_l rr h1.eo ek
        exact ⟨true, p', xs, rfl, hs, k _ _ _ _ (h1.src jw fun a => by simp)⟩
    · cases e1
      exact ⟨k, a, xs, rfl, h⟩
  · rename_i r
    split at ek
    · rename_i b e1
      unfold rngS at ek
      split at ek
      · rename_i hb
        cases ek
        refine ⟨β, q, ρ, F, [r], ρ1, p, e, fun vs H1 F1 G1 h1 => ?_⟩
        obtain ⟨v, rfl, rr⟩ := one_rr (rs := []) h1.rr
        have hv := (rr.rd h1.eo e1).int
        subst hv
        obtain ⟨_, _, b1, b2⟩ := rngOk_of hb
        exact ⟨b, rfl, b1, b2, k _ _ _ _ (h1.src (by rw [Int.sub_zero]; exact .rng) fun a => by simp)⟩
      · cases ek
    · cases ek
  · rename_i r r2
    split at ek
    · rename_i a b e1 e2
      unfold rngS at ek
      split at ek
      · rename_i hb
        cases ek
        refine ⟨β, q, ρ, F, [r, r2], ρ1, p, e, fun vs H1 F1 G1 h1 => ?_⟩
        obtain ⟨v, u, _, _, rfl, rr, rr2, _⟩ := two_rr h1.rr
        have hv := (rr.rd h1.eo e1).int
        have hu := (rr2.rd h1.eo e2).int
        subst hv hu
        exact ⟨a, b, rfl, rngOk_of hb, k _ _ _ _ (h1.src .rng fun a => by simp)⟩
      · cases ek
    · cases ek
  · rename_i r
    cases e1 : sqOf ρ1 r with
    | none => rw [e1] at ek; cases ek
    | some a =>
      rw [e1] at ek; cases ek
      refine ⟨β, q, ρ, F, [r], ρ1, p, e, fun vs H1 F1 G1 h1 => ?_⟩
      obtain ⟨v, rfl, rr⟩ := one_rr (rs := []) h1.rr
      obtain ⟨k', p', G', rfl, sw, sb, xs, hs⟩ := sq_of rr h1.eo e1
      exact ⟨k', p', xs, rfl, hs, k _ _ _ _ (h1.src (.enum sw) sb)⟩
  · rename_i r r2
    split at ek
    · rename_i a b e1 e2
      cases ek
      refine ⟨β, q, ρ, F, [r, r2], ρ1, p, e, fun vs H1 F1 G1 h1 => ?_⟩
      obtain ⟨v, u, Ga, Gb, rfl, rr, rr2, eg⟩ := two_rr h1.rr
      obtain ⟨k', p', G', rfl, sw, sb, xs, hs⟩ := sq_of rr h1.eo e1
      obtain ⟨k2, p2, G2, rfl, sw2, sb2, xs2, hs2⟩ := sq_of rr2 h1.eo e2
      have fin := k _ _ _ _ (h1.src (.zip sw sw2) fun a => by rw [eg, ct_app, ct_app]; have := sb a; have := sb2 a; omega)
      exact ⟨k', k2, p', p2, xs, xs2, rfl, hs, hs2, fin⟩
    · cases ek
  · cases ek
end
end PF

set_option Elab.async false
set_option linter.all false
set_option maxRecDepth 100000
/-! PF13: targets; comprehensions -/
namespace PF
open PySem PySem.Spec PyProof.Rows L2
def gNames : List Nat → TGs
  | [] => gNil
  | i :: is => gCons (gName i) (gNames is)
def gT (K : PySem.W.Frag) : Tg → TG
  | .one i => gName i
  | .many is => gTup K is.length (gNames is)
section
variable {K : PySem.W.Frag} {H H1 H2 : Hp} {β : List Bool} {σ σ' : L2.St} {ρ ρ' ρ1 ρ2 : List S} {F F1 F2 A G : List Addr} {q q' : Bool} {r : R} {v : V} {Γ : List CT}
theorem set_over {α : Type} {l : List α} {i : Nat} {x : α} (h : l.length ≤ i) : l.set i x = l := by
  rw [List.set_eq_of_length_le h]
theorem put_over : ∀ (ρ : List S) (i : Nat) (s : S), ρ.length ≤ i → put ρ i s = ρ
  | [], _, _, _ => rfl
  | _ :: _, 0, _, h => by simp at h
  | x :: r, i + 1, s, h => congrArg (x :: ·) (put_over r i s (by simpa using h))
theorem EO.store' {i : Nat} {d : D} (h : EO K H β σ ρ F) (o : OW K H v d G) : ∃ F', Sb F' (F ++ G) ∧ EO K H β (σ.set i (some v)) (put ρ i (.val d)) F' := by
  by_cases hi : i < σ.length
  · exact h.store hi o
  · rw [set_over (by omega), put_over _ _ _ (by rw [h.len]; omega)]
    exact ⟨F, fun a => by rw [ct_app]; omega, h⟩
theorem EO.storeB' {i : Nat} {d : D} (h : EO K H β σ ρ F) (hb : i < β.length → β[i]? = some true) (o : OW K H v d G) : ∃ F', Sb F' F ∧ EO K H β (σ.set i (some v)) (put ρ i (.bor d)) F' := by
  by_cases hi : i < σ.length
  · exact h.storeB hi (hb (by rw [h.lenB]; exact hi)) o
  · rw [set_over (by omega), put_over _ _ _ (by rw [h.len]; omega)]
    exact ⟨F, Sb.refl _, h⟩
/-- what a target's names become -/
structure Bd (σ σ2 : L2.St) (is : List Nat) : Prop where
  len : σ2.length = σ.length
  out : ∀ j, j ∉ is → σ2[j]? = σ[j]?
theorem Bd.refl (is : List Nat) : Bd σ σ is := ⟨rfl, fun _ _ => rfl⟩
theorem Bd.set {i : Nat} {x : Option V} {is : List Nat} (h : Bd (σ.set i x) σ' is) : Bd σ σ' (i :: is) :=
  ⟨by rw [h.len, List.length_set], fun j hj => by
    simp only [List.mem_cons, not_or] at hj
    rw [h.out j hj.2, List.getElem?_set_ne (Ne.symm hj.1)]⟩
theorem g_names {Q : L2.St → Hp → Prop} : ∀ {is : List Nat} {vs : List V} {ds : List D} {σ : L2.St} {ρ ρ2 : List S} {F G : List Addr}, EO K H β σ ρ F → OWs K H vs ds G → putAll ρ is (ds.map .val) = some ρ2 →
    (∀ σ2 F2, EO K H β σ2 ρ2 F2 → Sb F2 (F ++ G) → Bd σ σ2 is → Q σ2 H) → gNames is vs σ H Q
  | [], _, [], _, _, _, _, _, eo, .nil, e, k => by
    cases e
    exact ⟨rfl, k _ _ eo (by rw [List.append_nil]; exact Sb.refl _) (.refl _)⟩
  | [], _, _ :: _, _, _, _, _, _, eo, .cons _ _, e, k => by cases e
  | _ :: _, _, [], _, _, _, _, _, eo, .nil, e, k => by cases e
  | i :: is, _, d :: ds, _, _, _, _, _, eo, .cons o os, e, k => by
    refine ⟨_, _, rfl, ?_⟩
    obtain ⟨F1, h1, h2⟩ := eo.store' (i := i) o
    exact g_names h2 os e fun σ2 F2 h3 h4 h5 => k σ2 F2 h3 (fun a => by
      have := h4 a
      have := h1 a
      simp only [ct_app] at *
      omega) h5.set
theorem g_namesB {Q : L2.St → Hp → Prop} : ∀ {is : List Nat} {vs : List V} {ds : List D} {σ : L2.St} {ρ ρ2 : List S} {F G : List Addr}, EO K H β σ ρ F → OWs K H vs ds G → (∀ i ∈ is, i < β.length → β[i]? = some true) → putAll ρ is (ds.map .bor) = some ρ2 →
    (∀ σ2 F2, EO K H β σ2 ρ2 F2 → Sb F2 F → Bd σ σ2 is → Q σ2 H) → gNames is vs σ H Q
  | [], _, [], _, _, _, _, _, eo, .nil, hb, e, k => by
    cases e
    exact ⟨rfl, k _ _ eo (Sb.refl _) (.refl _)⟩
  | [], _, _ :: _, _, _, _, _, _, eo, .cons _ _, hb, e, k => by cases e
  | _ :: _, _, [], _, _, _, _, _, eo, .nil, hb, e, k => by cases e
  | i :: is, _, d :: ds, _, _, _, _, _, eo, .cons o os, hb, e, k => by
    refine ⟨_, _, rfl, ?_⟩
    obtain ⟨F1, h1, h2⟩ := eo.storeB' (i := i) (hb i List.mem_cons_self) o
    exact g_namesB h2 os (fun j hj => hb j (List.mem_cons_of_mem _ hj)) e fun σ2 F2 h3 h4 h5 => k σ2 F2 h3 (h4.trans h1) h5.set
theorem unpk_ow {d : D} {ds : List D} (o : OW K H v d G) (e : unpk d = some ds) : ∃ a vs, v = .ref a ∧ SqT K H a vs ∧ OWs K H vs ds G := by
  unfold unpk at e
  split at e
  · cases e
    cases o with
    | p r =>
      cases r with
      | tup h1 h2 => exact ⟨_, _, rfl, h1.t, .pure h2⟩
  · cases e
    cases o with
    | u h1 h2 => exact ⟨_, _, rfl, h1.t, h2⟩
  · cases e
theorem g_val {tg : Tg} {d : D} {Q : L2.St → Hp → Prop} (eo : EO K H β σ ρ F) (o : OW K H v d G) (e : bind false tg d ρ = some ρ2)
    (k : ∀ σ2 F2, EO K H β σ2 ρ2 F2 → Sb F2 (F ++ G) → Bd σ σ2 tg.own → Q σ2 H) : gT K tg v σ H Q := by
  cases tg with
  | one i =>
    cases e
    obtain ⟨F1, h1, h2⟩ := eo.store' (i := i) o
    exact k _ _ h2 h1 (Bd.set (.refl _))
  | many is =>
    simp only [bind] at e
    split at e
    · rename_i ds e1
      obtain ⟨a, vs, rfl, h1, h2⟩ := unpk_ow o e1
      have hl : vs.length = is.length := by
        rw [h2.len]
        have : ∀ {is : List Nat} {ds : List D} {ρ ρ2 : List S} (f : D → S), putAll ρ is (ds.map f) = some ρ2 → ds.length = is.length := by
          intro is
          induction is with
          | nil => intro ds ρ ρ2 f e; cases ds with
            | nil => rfl
            | cons _ _ => cases e
          | cons i is ih => intro ds ρ ρ2 f e; cases ds with
            | nil => cases e
            | cons d ds => exact congrArg (· + 1) (ih f e)
        exact this _ e
      exact ⟨a, vs, rfl, h1, hl, g_names eo h2 e k⟩
    · cases e
theorem g_bor {tg : Tg} {d : D} {Q : L2.St → Hp → Prop} (eo : EO K H β σ ρ F) (o : OW K H v d G) (hb : ∀ i ∈ tg.own, i < β.length → β[i]? = some true) (e : bind true tg d ρ = some ρ2)
    (k : ∀ σ2 F2, EO K H β σ2 ρ2 F2 → Sb F2 F → Bd σ σ2 tg.own → Q σ2 H) : gT K tg v σ H Q := by
  cases tg with
  | one i =>
    cases e
    obtain ⟨F1, h1, h2⟩ := eo.storeB' (i := i) (hb i List.mem_cons_self) o
    exact k _ _ h2 h1 (Bd.set (.refl _))
  | many is =>
    simp only [bind] at e
    split at e
    · rename_i ds e1
      obtain ⟨a, vs, rfl, h1, h2⟩ := unpk_ow o e1
      have hl : vs.length = is.length := by
        rw [h2.len]
        have : ∀ {is : List Nat} {ds : List D} {ρ ρ2 : List S} (f : D → S), putAll ρ is (ds.map f) = some ρ2 → ds.length = is.length := by
          intro is
          induction is with
          | nil => intro ds ρ ρ2 f e; cases ds with
            | nil => rfl
            | cons _ _ => cases e
          | cons i is ih => intro ds ρ ρ2 f e; cases ds with
            | nil => cases e
            | cons d ds => exact congrArg (· + 1) (ih f e)
        exact this _ e
      exact ⟨a, vs, rfl, h1, hl, g_namesB eo h2 hb e k⟩
    · cases e
theorem wipe_at {σ : L2.St} {j : Nat} : ∀ {vs : List Nat}, j ∈ vs → (wipe σ vs)[j]? = if j < σ.length then some none else none
  | [], h => by cases h
  | i :: vs, h => by
    unfold wipe
    by_cases e : j = i
    · subst e
      by_cases hl : j < σ.length
      · rw [List.getElem?_set_self (by rw [wipe_length]; exact hl), if_pos hl]
      · rw [List.getElem?_eq_none (by rw [List.length_set, wipe_length]; omega), if_neg hl]
    · rw [List.getElem?_set_ne (Ne.symm e)]
      exact wipe_at ((List.mem_cons.mp h).resolve_left e)
theorem wipe_not {σ : L2.St} {j : Nat} : ∀ {vs : List Nat}, j ∉ vs → (wipe σ vs)[j]? = σ[j]?
  | [], _ => rfl
  | i :: vs, h => by
    simp only [List.mem_cons, not_or] at h
    unfold wipe
    rw [List.getElem?_set_ne (Ne.symm h.1)]
    exact wipe_not h.2
theorem Bd.wipe {σ2 : L2.St} {is : List Nat} (h : Bd (L2.wipe σ is) σ2 is) : L2.wipe σ2 is = L2.wipe σ is := by
  refine List.ext_getElem? fun j => ?_
  have hl : σ2.length = σ.length := by rw [h.len, wipe_length]
  by_cases hj : j ∈ is
  · rw [wipe_at hj, wipe_at hj, hl]
  · rw [wipe_not hj, h.out j hj, wipe_not hj]
theorem less_wipe {is : List Nat} : Less (L2.wipe σ is) σ := fun i v h => (wipe_some h).1
/-- places that hold nothing may bear any value -/
theorem kill_no (ρ : List S) : ∀ {is : List Nat} {j : Nat}, j ∈ is → look (kill ρ is) j = .no
  | [], _, h => by cases h
  | i :: is, j, h => by
    show look (put (kill ρ is) i .no) j = .no
    by_cases e : j = i
    · subst e
      by_cases hl : j < (kill ρ is).length
      · exact look_put _ _ _ hl
      · exact look_over _ _ (by rw [put_len]; omega)
    · rw [look_put_ne _ _ e]
      exact kill_no ρ ((List.mem_cons.mp h).resolve_left e)
theorem put_no : ∀ {ρ : List S} {i : Nat}, look ρ i = .no → put ρ i .no = ρ
  | [], _, _ => rfl
  | s :: r, 0, h => by have h : s = .no := h; rw [h]; rfl
  | s :: r, i + 1, h => congrArg (s :: ·) (put_no (ρ := r) h)
theorem kill_idem {ρ : List S} : ∀ {is : List Nat}, (∀ j ∈ is, look ρ j = .no) → kill ρ is = ρ
  | [], _ => rfl
  | i :: is, h => by
    show put (kill ρ is) i .no = ρ
    rw [kill_idem fun j hj => h j (List.mem_cons_of_mem _ hj)]
    exact put_no (h i List.mem_cons_self)
/-- the lent names -/
def lend (β : List Bool) : List Nat → List Bool
  | [] => β
  | i :: is => (lend β is).set i true
theorem lend_len (β : List Bool) : ∀ is, (lend β is).length = β.length
  | [] => rfl
  | i :: is => by unfold lend; rw [List.length_set, lend_len]
theorem lend_at {β : List Bool} {j : Nat} : ∀ {is : List Nat}, j ∈ is → j < β.length → (lend β is)[j]? = some true
  | [], h, _ => by cases h
  | i :: is, h, hl => by
    unfold lend
    by_cases e : j = i
    · subst e
      rw [List.getElem?_set_self (by rw [lend_len]; exact hl)]
    · rw [List.getElem?_set_ne (Ne.symm e)]
      exact lend_at ((List.mem_cons.mp h).resolve_left e) hl
theorem lend_keep {β : List Bool} {j : Nat} : ∀ {is : List Nat}, β[j]? = some true → (lend β is)[j]? = some true
  | [], h => h
  | i :: is, h => by
    unfold lend
    by_cases e : j = i
    · subst e
      rw [List.getElem?_set_self (by rw [lend_len]; exact (List.getElem?_eq_some_iff.mp h).1)]
    · rw [List.getElem?_set_ne (Ne.symm e)]
      exact lend_keep h
theorem EO.up {is : List Nat} (h : EO K H β σ ρ F) : EO K H (lend β is) σ ρ F := h.re (lend_len _ _) fun i d e => lend_keep (h.bor_at e).choose_spec.choose_spec.2.2
end
end PF

set_option Elab.async false
set_option linter.all false
set_option maxRecDepth 100000
/-! PF14: comprehensions -/
namespace PF
open PySem PySem.Spec PyProof.Rows L2
def tT (Γ : List CT) (K : PySem.W.Frag) : List Ex → TT
  | [] => tYes
  | c :: _ => xT Γ K c
/-- where a comprehension begins -/
structure CB (K : PySem.W.Frag) (β : List Bool) (q : Bool) (σ : L2.St) (J : It) (w : Wk) (ρ1 : List S) (H1 : Hp) (F1 G1 : List Addr) (D : Addr) : Prop where
  nb : q = false → noB β
  eo : EO K H1 β σ ρ1 F1
  jw : JW K H1 σ J w G1
  nd : ND (F1 ++ G1)
  dn : H1 D = none
/-- how it stands at a turn; E: loose things -/
structure CI (K : PySem.W.Frag) (β : List Bool) (q : Bool) (σ : L2.St) (is : List Nat) (J : It) (w : Wk) (ρ1 : List S) (H1 : Hp) (F1 G1 : List Addr) (D : Addr) (H : Hp) (ρ : List S) (F : List Addr) (av : List V) (ads : List PF.D) (Ga E : List Addr) : Prop where
  eo : EO K H β (wipe σ is) ρ F
  no : ∀ j ∈ is, look ρ j = .no
  jw : JW K H σ J w G1
  acc : H D = some (.lst av)
  ow : OWs K H av ads Ga
  nd : ND ((F ++ (G1 ++ (D :: Ga))) ++ E)
  st : Step (q || w.isLent) H1 F1 H ((F ++ (D :: Ga)) ++ E)
  nq : (q || w.isLent) = true → ∀ a ∈ (D :: Ga) ++ E, H1 a = none
  le : (q || w.isLent) = true → Le (kill ρ1 is) ρ
section
variable {K : PySem.W.Frag} {H H1 H2 H' H4 : Hp} {β β' : List Bool} {σ σ' σ2 : L2.St} {ρ ρ' ρ1 ρ2 ρ5 : List S} {F F1 F2 F5 A G G1 G5 Ga E : List Addr} {q q' : Bool} {r : R} {v y : V} {Γ : List CT} {is : List Nat} {J : It} {w : Wk} {D : Addr} {av : List V} {ads : List PF.D} {x : PF.D}
theorem ct_cons (a b : Nat) (F : List Nat) : List.count (α := Nat) a (b :: F) = List.count a F + if b = a then 1 else 0 := by
  rw [List.count_cons]
  congr 1
  by_cases e : b = a <;> simp [e]
theorem MutF.one {a : Addr} {xs : List V} (h : H a = some (.lst xs)) : MutF H [a] := by
  intro b hb
  have e := List.mem_singleton.mp hb
  subst e
  exact ⟨.lst xs, h, trivial⟩
theorem CB.base (b : CB K β q σ J w ρ1 H1 F1 G1 D) (l : Le (kill ρ1 is) ρ) (f : Fr H1 H []) : ∃ F6, Sb F6 F1 ∧ EO K H β (wipe σ is) ρ F6 := by
  obtain ⟨F2, h1, h2⟩ := b.eo.kill is (σ' := wipe σ is) (wipe_length _ _) fun j hj => wipe_not hj
  obtain ⟨F3, h3, h4⟩ := h2.le l
  exact ⟨F3, h3.trans h1, h4.fr0 f⟩
theorem noD {D : Addr} {o : HO} (h : H D = some o) (s : ∀ a ∈ A, a ∈ F ∨ H a = none) (n : D ∉ F) : D ∉ A := fun z => by
  rcases s D z with z | z
  · exact n z
  · rw [h] at z; cases z
theorem CI.start (b : CB K β q σ J w ρ1 H1 F1 G1 D) : ∃ F, CI K β q σ is J w ρ1 H1 F1 G1 D (upd H1 D (.lst [])) (kill ρ1 is) F [] [] [] [] := by
  obtain ⟨F2, h1, h2⟩ := b.eo.kill is (σ' := wipe σ is) (wipe_length _ _) fun j hj => wipe_not hj
  have f : Fr H1 (upd H1 D (.lst [])) [] := Fr.new b.dn
  refine ⟨F2, h2.fr0 f, fun j hj => kill_no _ hj, b.jw.fr f .nil (fun _ _ z => nomatch z) fun _ => rfl, upd_same, .nil, fun a => ?_, ⟨fun a ha => ?_, fun a o e n => f a o e fun z => nomatch z⟩, fun _ a ha => ?_, fun _ => .refl _⟩
  · have c1 := b.nd a
    have c2 := h1 a
    simp only [ct_app, ct_cons, List.count_nil] at c1 ⊢
    split
    · rename_i e
      subst e
      have z1 : List.count (α := Nat) D F1 = 0 := List.count_eq_zero.mpr (b.eo.mt.ne b.dn)
      have z2 : List.count (α := Nat) D G1 = 0 := List.count_eq_zero.mpr (b.jw.mt.ne b.dn)
      omega
    · omega
  · simp only [List.append_nil, List.mem_append, List.mem_singleton] at ha
    rcases ha with ha | rfl
    · exact .inl (h1.mem ha)
    · exact .inr b.dn
  · simp only [List.append_nil, List.mem_singleton] at ha
    subst ha
    exact b.dn
theorem CI.next (b : CB K β q σ J w ρ1 H1 F1 G1 D) (c : CI K β q σ is J w ρ1 H1 F1 G1 D H ρ F av ads Ga []) (f : Fr H H' []) (s2 : ∀ a ∈ F2, a ∈ F ∨ H a = none)
    (hβ : w.isLent = false → β' = β) (eo : EO K H4 β' σ2 ρ5 F5) (bd : Bd (wipe σ is) σ2 is) (nd : ND (F5 ++ G5)) (st : Step (q || w.isLent) H' F2 H4 (F5 ++ G5)) (nq : (q || w.isLent) = true → ∀ a ∈ G5, H' a = none)
    (le : (q || w.isLent) = true → Le ρ (kill ρ5 is)) : ∃ F6, CI K β q σ is J w ρ1 H1 F1 G1 D H4 (kill ρ5 is) F6 av ads Ga G5 := by
  have nd0 : ND (F ++ (G1 ++ (D :: Ga))) := by have := c.nd; rwa [List.append_nil] at this
  have st0 : Step (q || w.isLent) H1 F1 H (F ++ (D :: Ga)) := by have := c.st; rwa [List.append_nil] at this
  have nq0 : (q || w.isLent) = true → ∀ a ∈ D :: Ga, H1 a = none := fun e a ha => c.nq e a (List.mem_append_left _ ha)
  -- what changes is new, or of the places
  have s4 : ∀ a ∈ F5 ++ G5, a ∈ F ∨ H a = none := fun a ha => by
    rcases st.nw a ha with z | z
    · exact s2 a z
    · exact .inr (f.oldNone z)
  have m : MutF H (G1 ++ (D :: Ga)) := c.jw.mt.app fun a ha => by
    rcases List.mem_cons.mp ha with rfl | ha
    · exact ⟨_, c.acc, trivial⟩
    · exact c.ow.mt a ha
  have far : ∀ a ∈ G1 ++ (D :: Ga), a ∉ FF (q || w.isLent) F2 := fun a ha z => by
    rcases s2 a (FF.sub z) with z | z
    · exact nd0.apart z ha
    · exact m.ne z ha
  have f4 : Fr H H4 (FF (q || w.isLent) F2) := fun a o e n => st.fr a o (f a o e fun z => nomatch z) n
  have mF : MutF H (FF (q || w.isLent) F2 |>.filter fun a => (H a).isSome) := fun a ha => by
    have h1 := (List.mem_filter.mp ha).1
    have h2 := (List.mem_filter.mp ha).2
    rcases s2 a (FF.sub h1) with z | z
    · exact c.eo.mt a z
    · rw [z] at h2; cases h2
  have f5 : Fr H H4 (FF (q || w.isLent) F2 |>.filter fun a => (H a).isSome) := fun a o e n => f4 a o e fun z => n (List.mem_filter.mpr ⟨z, by rw [e]; rfl⟩)
  have far5 : ∀ a ∈ G1 ++ (D :: Ga), a ∉ (FF (q || w.isLent) F2 |>.filter fun a => (H a).isSome) := fun a ha z => far a ha (List.mem_filter.mp z).1
  have fr14 : Fr H1 H4 (FF (q || w.isLent) F1) := fun a o e n => by
    refine f4 a o (st0.fr a o e n) fun z => ?_
    cases hq : (q || w.isLent) with
    | true => rw [hq] at z; cases z
    | false =>
      rw [hq] at n z
      have z' : a ∈ F2 := z
      have n' : a ∉ F1 := n
      rcases s2 a z' with w1 | w1
      · rcases st0.nw a (List.mem_append_left _ w1) with w2 | w2
        · exact n' w2
        · rw [w2] at e; cases e
      · have := st0.fr a o e (by rw [hq]; exact n)
        rw [this] at w1; cases w1
  have hacc : H4 D = some (.lst av) := f4 D _ c.acc (far D (List.mem_append_right _ List.mem_cons_self))
  have how : OWs K H4 av ads Ga := c.ow.fr f5 mF fun a ha => far5 a (List.mem_append_right _ (List.mem_cons_of_mem _ ha))
  cases hq : (q || w.isLent) with
  | false =>
    have hl : w.isLent = false := by
      cases h : w.isLent with
      | false => rfl
      | true => rw [h, Bool.or_true] at hq; cases hq
    have e := hβ hl
    subst e
    obtain ⟨F6, h1, h2⟩ := eo.kill is (σ' := wipe σ is) (by rw [bd.len]) fun j hj => (bd.out j hj).symm
    refine ⟨F6, h2, fun j hj => kill_no _ hj, c.jw.fr f5 mF (fun a ha => far5 a (List.mem_append_left _ ha)) (fun z => by rw [hl] at z; cases z), hacc, how, ?_, ?_, (fun z => by rw [hq] at z; cases z), fun z => by rw [hq] at z; cases z⟩
    · refine (nd0.keep m nd s4).perm fun a => ?_
      have := h1 a
      simp only [ct_app] at *
      omega
    · refine ⟨fun a ha => ?_, fr14⟩
      have : a ∈ F5 ++ G5 ∨ a ∈ D :: Ga := by
        rcases List.mem_append.mp ha with ha | ha
        · rcases List.mem_append.mp ha with ha | ha
          · exact .inl (List.mem_append_left _ (h1.mem ha))
          · exact .inr ha
        · exact .inl (List.mem_append_right _ ha)
      rcases this with ha | ha
      · rcases s4 a ha with z | z
        · exact st0.nw a (List.mem_append_left _ z)
        · exact st0.newer z
      · exact st0.nw a (List.mem_append_right _ ha)
  | true =>
    have f0 : Fr H1 H4 [] := by rw [hq] at fr14; exact fr14
    have f1 : Fr H1 H [] := by have := st0.fr; rw [hq] at this; exact this
    obtain ⟨F6, h1, h2⟩ := b.base ((c.le hq).trans (le hq)) f0
    have nG : ∀ a ∈ G5, H a = none := fun a ha => f.oldNone (nq hq a ha)
    have nq1 : ∀ a ∈ (D :: Ga) ++ G5, H1 a = none := fun a ha => by
      rcases List.mem_append.mp ha with ha | ha
      · exact nq0 hq a ha
      · exact f1.oldNone (nG a ha)
    have ndX : ND (G5 ++ (D :: Ga)) := by
      refine ND.keep (F1 := []) (H1 := H) (by have := nd0.right.right; simpa using this) (fun a ha => m a (List.mem_append_right _ ha)) nd.right fun a ha => .inr (nG a ha)
    have ndY : ND ((G5 ++ (D :: Ga)) ++ (F1 ++ G1)) := by
      refine ND.keep (F1 := []) (H1 := H1) (by have := b.nd; simpa using this) (b.eo.mt.app b.jw.mt) ndX fun a ha => .inr (nq1 a ?_)
      rcases List.mem_append.mp ha with ha | ha
      · exact List.mem_append_right _ ha
      · exact List.mem_append_left _ ha
    refine ⟨F6, h2, fun j hj => kill_no _ hj, b.jw.fr f0 .nil (fun _ _ z => nomatch z) (fun _ => rfl), hacc, how, ?_, ⟨fun a ha => ?_, fr14⟩, fun _ => nq1, fun _ => (c.le hq).trans (le hq)⟩
    · refine ndY.perm fun a => ?_
      have := h1 a
      simp only [ct_app] at *
      omega
    · have : a ∈ F6 ∨ a ∈ (D :: Ga) ++ G5 := by
        rcases List.mem_append.mp ha with ha | ha
        · rcases List.mem_append.mp ha with ha | ha
          · exact .inl ha
          · exact .inr (List.mem_append_left _ ha)
        · exact .inr (List.mem_append_right _ ha)
      rcases this with ha | ha
      · exact .inl (h1.mem ha)
      · exact .inr (nq1 a ha)
theorem CI.app (b : CB K β q σ J w ρ1 H1 F1 G1 D) (c : CI K β q σ is J w ρ1 H1 F1 G1 D H ρ F av ads Ga E) (o : OW K H y x E) :
    ∃ F6, CI K β q σ is J w ρ1 H1 F1 G1 D (upd H D (.lst (av ++ [y]))) ρ F6 (av ++ [y]) (ads ++ [x]) (Ga ++ E) [] := by
  have f : Fr H (upd H D (.lst (av ++ [y]))) [D] := fun a o' e n => by
    rw [upd_ne (fun z => n (by rw [z]; exact List.mem_singleton.mpr rfl))]
    exact e
  have mD : MutF H [D] := MutF.one c.acc
  have cD := c.nd D
  simp only [ct_app, ct_cons, if_pos] at cD
  have dz : ∀ {A : List Addr}, List.count (α := Nat) D A = 0 → ∀ a ∈ A, a ∉ [D] := fun {A} h a ha z => by
    rw [List.mem_singleton.mp z] at ha
    exact absurd ha (List.count_eq_zero.mp h)
  have zF : List.count (α := Nat) D F = 0 := by omega
  have zG : List.count (α := Nat) D G1 = 0 := by omega
  have zA : List.count (α := Nat) D Ga = 0 := by omega
  have zE : List.count (α := Nat) D E = 0 := by omega
  have how : OWs K (upd H D (.lst (av ++ [y]))) (av ++ [y]) (ads ++ [x]) (Ga ++ E) := by
    have h1 := c.ow.fr f mD (dz zA)
    have h2 : OWs K (upd H D (.lst (av ++ [y]))) [y] [x] (E ++ []) := .cons (o.fr f mD (dz zE)) .nil
    rw [List.append_nil] at h2
    exact h1.app h2
  have fr1 : Fr H1 (upd H D (.lst (av ++ [y]))) (FF (q || w.isLent) F1) := fun a o' e n => f a o' (c.st.fr a o' e n) fun z => by
    rw [List.mem_singleton.mp z, b.dn] at e; cases e
  have nd' : ∀ {F6 : List Addr}, Sb F6 F → ND ((F6 ++ (G1 ++ (D :: (Ga ++ E)))) ++ []) := fun {F6} s => c.nd.perm fun a => by
    have := s a
    simp only [ct_app, ct_cons, List.count_nil] at *
    omega
  have st' : ∀ {F6 : List Addr}, (∀ a ∈ F6, a ∈ F1 ∨ H1 a = none) → Step (q || w.isLent) H1 F1 (upd H D (.lst (av ++ [y]))) ((F6 ++ (D :: (Ga ++ E))) ++ []) := fun {F6} s => ⟨fun a ha => by
    rw [List.append_nil] at ha
    rcases List.mem_append.mp ha with ha | ha
    · exact s a ha
    · refine c.st.nw a ?_
      simp only [List.mem_append, List.mem_cons] at ha ⊢
      rcases ha with ha | ha | ha
      · exact .inl (.inr (.inl ha))
      · exact .inl (.inr (.inr ha))
      · exact .inr ha, fr1⟩
  have nq' : (q || w.isLent) = true → ∀ a ∈ (D :: (Ga ++ E)) ++ [], H1 a = none := fun e a ha => c.nq e a (by
    simp only [List.append_nil, List.mem_append, List.mem_cons] at ha ⊢
    rcases ha with ha | ha | ha
    · exact .inl (.inl ha)
    · exact .inl (.inr ha)
    · exact .inr ha)
  cases hq : (q || w.isLent) with
  | false =>
    have hl : w.isLent = false := by
      cases h : w.isLent with
      | false => rfl
      | true => rw [h, Bool.or_true] at hq; cases hq
    have hq' : q = false := by
      cases h : q with
      | false => rfl
      | true => rw [h] at hq; cases hq
    exact ⟨F, c.eo.fr f mD (b.nb hq') (dz zF), c.no, c.jw.fr f mD (dz zG) (fun z => by rw [hl] at z; cases z), upd_same, how, nd' (Sb.refl _), st' fun a ha => c.st.nw a (List.mem_append_left _ (List.mem_append_left _ ha)), nq', c.le⟩
  | true =>
    have f0 : Fr H1 (upd H D (.lst (av ++ [y]))) [] := by rw [hq] at fr1; exact fr1
    obtain ⟨F6, h1, h2⟩ := b.base (c.le hq) f0
    have f1 : Fr H1 H [] := by have := c.st.fr; rw [hq] at this; exact this
    have nq1 := nq' hq
    rw [List.append_nil] at nq1
    refine ⟨F6, h2, c.no, b.jw.fr f0 .nil (fun _ _ z => nomatch z) (fun _ => rfl), upd_same, how, ?_, st' fun a ha => .inl (h1.mem ha), nq', c.le⟩
    have ndX : ND (D :: (Ga ++ E)) := c.nd.perm fun a => by simp only [ct_app, ct_cons]; omega
    have ndY : ND ((D :: (Ga ++ E)) ++ (F1 ++ G1)) := ND.keep (F1 := []) (H1 := H1) (by have := b.nd; simpa using this) (b.eo.mt.app b.jw.mt) ndX fun a ha => .inr (nq1 a ha)
    refine ndY.perm fun a => ?_
    have := h1 a
    simp only [ct_app, ct_cons, List.count_nil] at *
    omega
end
end PF

set_option Elab.async false
set_option linter.all false
set_option maxRecDepth 100000
/-! PF15: comprehensions, the whole -/
namespace PF
open PySem PySem.Spec PyProof.Rows L2
section
variable {K : PySem.W.Frag} {H H1 H2 H' H4 : Hp} {β β' : List Bool} {σ σ' σ2 : L2.St} {ρ ρ' ρ1 ρ2 ρ3 ρ5 : List S} {F F1 F2 F5 A G G1 G5 Ga E : List Addr} {q q' : Bool} {r : R} {v y : V} {Γ : List CT} {is : List Nat} {J : It} {w : Wk} {D : Addr} {av : List V} {ads : List PF.D} {x : PF.D}
theorem putAll_out : ∀ {is : List Nat} {ds : List S} {ρ ρ2 : List S}, putAll ρ is ds = some ρ2 → ρ2.length = ρ.length ∧ ∀ j, j ∉ is → look ρ2 j = look ρ j
  | [], [], _, _, e => by cases e; exact ⟨rfl, fun _ _ => rfl⟩
  | [], _ :: _, _, _, e => by cases e
  | _ :: _, [], _, _, e => by cases e
  | i :: is, d :: ds, ρ, ρ2, e => by
    obtain ⟨h1, h2⟩ := putAll_out (is := is) (ds := ds) (ρ := put ρ i d) e
    refine ⟨by rw [h1, put_len], fun j hj => ?_⟩
    simp only [List.mem_cons, not_or] at hj
    rw [h2 j hj.2, look_put_ne _ _ hj.1]
theorem bind_out {b : Bool} {tg : Tg} {d : PF.D} (e : PF.bind b tg d ρ = some ρ2) : ρ2.length = ρ.length ∧ ∀ j, j ∉ tg.own → look ρ2 j = look ρ j := by
  cases tg with
  | one i =>
    cases e
    exact ⟨put_len _ _ _, fun j hj => look_put_ne _ _ (by simpa [Tg.own] using hj)⟩
  | many is =>
    simp only [PF.bind] at e
    split at e
    · exact putAll_out e
    · cases e
theorem le_turn {b : Bool} {tg : Tg} {d : PF.D} (e : PF.bind b tg d ρ = some ρ2) (l : Le ρ2 ρ5) : Le ρ (kill ρ5 tg.own) := by
  obtain ⟨h1, h2⟩ := bind_out e
  refine ⟨by rw [kill_len, l.len, h1], fun j => ?_⟩
  by_cases hj : j ∈ tg.own
  · exact .inr (kill_no _ hj)
  · rw [look_kill _ hj, ← h2 j hj]
    exact l.at_ j
theorem tT_of {conds : List Ex} {b : Bool} {Q : Bool → Hp → Prop} (p : Pre K β q σ ρ H F) (e : evT Γ q conds ρ = some (b, ρ3)) (k : ∀ H3 F3, PstT K β q σ ρ H F ρ3 H3 F3 → Q b H3) : tT Γ K conds σ H Q := by
  cases conds with
  | nil =>
    cases e
    exact k H F ⟨p.eo, p.nd, .refl, fun _ => .refl _⟩
  | cons c t =>
    cases t with
    | cons _ _ => cases e
    | nil =>
      simp only [evT] at e
      split at e
      · rename_i r ρ1 e1
        split at e
        · rename_i kk e2
          cases e
          exact ⟨β, q, ρ, F, r, ρ3, b, p, e1, e2, fun H3 F3 h3 => k H3 F3 h3⟩
        · cases e
      · cases e
theorem x_comp {elt : Ex} {tg : Tg} {kind : Nat} {src conds : List Ex} {Q : VK} (h : xE Γ K (.comp elt tg kind src conds) σ H Q) :
    tLc (xI Γ K kind src) (gT K tg) (tT Γ K conds) (xE Γ K elt) tg.own σ H Q := by
  obtain ⟨β, q, ρ, F, x0, ρ', p, e, kk⟩ := h
  simp only [ev] at e
  split at e
  · rename_i rs ρ1 e1
    split at e
    · rename_i w ek
      split at e
      · rename_i hlen
        generalize hf : (fun (d : PF.D) (a : List PF.D × List S) => _ : PF.D → List PF.D × List S → Option (List PF.D × List S)) = f at e
        split at e
        · rename_i adsf ρ2 e3
          cases e
          refine x_src p e1 ek fun J H1 F1 G1 h1 => ?_
          intro D hD
          have b : CB K β q σ J w ρ1 H1 F1 G1 D := ⟨p.nb, h1.eo, h1.jw, h1.nd, hD⟩
          refine ⟨fun i m H => m = w.len - i ∧ i ≤ w.len ∧ ∃ ρi F av ads Ga, CI K β q σ tg.own J w ρ1 H1 F1 G1 D H ρi F av ads Ga [] ∧ ads.length ≤ i ∧ walkN Prod.snd w f (w.len - i) (ads, ρi) = some (adsf, ρ'), ⟨w.len, ?_⟩, ?_⟩
          · obtain ⟨F0, c⟩ := CI.start (is := tg.own) b
            exact ⟨rfl, Nat.zero_le _, _, F0, [], [], [], c, Nat.le_refl _, e3⟩
          rintro i m H2 ⟨rfl, hi, ρi, F2, av, ads, Ga, c, hal, hw⟩
          by_cases hlt : i < w.len
          · refine .inr ?_
            obtain ⟨kn, hk⟩ : ∃ kn, w.len - i = kn + 1 := ⟨w.len - i - 1, by omega⟩
            rw [hk] at hw
            simp only [walkN] at hw
            have hix : w.len - (kn + 1) = i := by omega
            rw [hix] at hw
            split at hw
            · rename_i d ed
              obtain ⟨hgo, hyld⟩ := c.jw.turn c.eo less_wipe ed
              refine ⟨hgo, fun H' => _, fun H' hn => ⟨_, (by omega : w.len - (i + 1) < w.len - i), hn⟩, fun x H3 hy => ?_⟩
              obtain ⟨y1, y2⟩ := hyld x H3 hy
              split at hw
              · rename_i a2 ea
                rw [← hf] at ea
                simp only [kill_idem c.no] at ea
                split at ea
                · rename_i ρb eb
                  have nd0 : ND (F2 ++ (G1 ++ (D :: Ga))) := by have := c.nd; rwa [List.append_nil] at this
                  -- what follows the target
                  have rest : ∀ β' σ2 Fb, (w.isLent = false → β' = β) → ((q || w.isLent) = false → noB β') → EO K H3 β' σ2 ρb Fb → ND Fb → Fr H2 H3 [] → (∀ a ∈ Fb, a ∈ F2 ∨ H2 a = none) → Bd (wipe σ tg.own) σ2 tg.own →
                      wipe σ2 tg.own = wipe σ tg.own ∧ tT Γ K conds σ2 H3 fun bb H4 => if bb = true then xE Γ K elt σ2 H4 fun y H5 => ∃ acc, H5 D = some (.lst acc) ∧ acc.length < sizeLine ∧
                        (w.len - (i + 1) = w.len - (i + 1) ∧ i + 1 ≤ w.len ∧ ∃ ρi F av ads Ga, CI K β q σ tg.own J w ρ1 H1 F1 G1 D (upd H5 D (.lst (acc ++ [y]))) ρi F av ads Ga [] ∧ ads.length ≤ i + 1 ∧ walkN Prod.snd w f (w.len - (i + 1)) (ads, ρi) = some (adsf, ρ'))
                        else (w.len - (i + 1) = w.len - (i + 1) ∧ i + 1 ≤ w.len ∧ ∃ ρi F av ads Ga, CI K β q σ tg.own J w ρ1 H1 F1 G1 D H4 ρi F av ads Ga [] ∧ ads.length ≤ i + 1 ∧ walkN Prod.snd w f (w.len - (i + 1)) (ads, ρi) = some (adsf, ρ')) := by
                    intro β' σ2 Fb hβ nb' eob ndb f3 sb bd
                    refine ⟨bd.wipe, ?_⟩
                    split at ea
                    · rename_i ρc et
                      split at ea
                      · rename_i r ρ4 ee
                        split at ea
                        · rename_i xx ρ5 eo5
                          cases ea
                          refine tT_of ⟨nb', eob, ndb⟩ et fun H4 F4 h4 => ite_tt ?_
                          refine ⟨β', q || w.isLent, ρc, F4, r, ρ4, h4.pre nb', ee, fun y H5 F5 G5 h5 => ?_⟩
                          obtain ⟨F6, G6, eo6, ow6, nd6, st6, nq6, le6⟩ := (h4.then_ h5).own eo5
                          obtain ⟨F7, c7⟩ := c.next b f3 sb hβ eo6 bd nd6 st6 nq6 fun e => le_turn eb (le6 e)
                          obtain ⟨F8, c8⟩ := c7.app b ow6
                          refine ⟨av, c7.acc, ?_, rfl, hlt, _, F8, _, _, _, c8, by rw [List.length_append]; simp only [List.length_singleton]; omega, ?_⟩
                          · rw [c7.ow.len, ← LIM_line]; omega
                          · have : w.len - (i + 1) = kn := by omega
                            rw [this]; exact hw
                        · cases ea
                      · cases ea
                    · rename_i ρc et
                      cases ea
                      refine tT_of ⟨nb', eob, ndb⟩ et fun H4 F4 h4 => ite_ff ?_
                      obtain ⟨F7, c7⟩ := c.next (G5 := []) b f3 sb hβ h4.eo bd (by rw [List.append_nil]; exact h4.nd) (by rw [List.append_nil]; exact h4.st) (fun _ _ z => nomatch z) fun e => le_turn eb (h4.le e)
                      refine ⟨rfl, hlt, _, F7, _, _, _, c7, by omega, ?_⟩
                      have : w.len - (i + 1) = kn := by omega
                      rw [this]; exact hw
                    · cases ea
                  cases hl : w.isLent with
                  | false =>
                    obtain ⟨Gx, ox, ndx, nwx, fx⟩ := y1 hl
                    rw [hl] at eb
                    refine g_val (c.eo.fr0 fx) ox eb fun σ2 Fb eob sb bd => rest β σ2 Fb (fun _ => rfl) (fun e => p.nb (or_false e)) eob ?_ fx (fun a ha => ?_) bd
                    · refine ND.sb (fun a => ?_) sb
                      have c1 := nd0.left a
                      have c2 := ndx a
                      rw [ct_app]
                      by_cases hg : a ∈ Gx
                      · have : List.count (α := Nat) a F2 = 0 := List.count_eq_zero.mpr (c.eo.mt.ne (nwx a hg))
                        omega
                      · have : List.count (α := Nat) a Gx = 0 := List.count_eq_zero.mpr hg
                        omega
                    · rcases List.mem_append.mp (sb.mem ha) with z | z
                      · exact .inl z
                      · exact .inr (nwx a z)
                  | true =>
                    obtain ⟨eh, Gx, ox⟩ := y2 hl
                    subst eh
                    rw [hl] at eb
                    refine g_bor (c.eo.up (is := tg.own)) ox (fun j hj hjl => lend_at hj (by rw [lend_len] at hjl; exact hjl)) eb fun σ2 Fb eob sb bd => rest _ σ2 Fb (fun z => by rw [hl] at z; cases z) (fun z => by rw [hl, Bool.or_true] at z; cases z) eob (nd0.left.sb sb) (Fr.refl _ _) (fun a ha => .inl (sb.mem ha)) bd
                · cases ea
              · cases hw
            · cases hw
          · refine .inl ?_
            have hi' : i = w.len := by omega
            subst hi'
            rw [Nat.sub_self] at hw
            simp only [walkN] at hw
            split at hw
            · rename_i hok
              cases hw
              refine ⟨c.jw.stop c.eo less_wipe hok, ?_⟩
              obtain ⟨F3, s3, eo3⟩ := c.eo.kill tg.own (σ' := σ) (wipe_length _ _).symm fun j hj => (wipe_not hj).symm
              rw [kill_idem c.no] at eo3
              have hnd := c.nd
              have hst := c.st
              have hnq := c.nq
              refine kk _ _ F3 (D :: Ga) ⟨eo3, .rv (.l c.acc c.ow), hnd.perm fun a => ?_, (h1.st.trans (fun a ha => List.mem_append_left _ ha) hst fun e => by rw [e]; rfl).sub fun a ha => ?_, fun e a ha => ?_, fun e => ((h1.le e).trans (Le.kill _ _)).trans (c.le (by rw [e]; rfl))⟩
              · have := s3 a
                simp only [ct_app, ct_cons, List.count_nil] at *
                omega
              · simp only [List.append_nil, List.mem_append] at ha ⊢
                rcases ha with ha | ha
                · exact .inr (.inl (s3.mem ha))
                · exact .inr (.inr ha)
              · have := hnq (by rw [e]; rfl) a (by rw [List.append_nil]; exact ha)
                subst e
                exact h1.st.q0.oldNone this
            · cases hw
        · cases e
      · cases e
    · cases e
  · cases e
end
end PF

set_option Elab.async false
set_option linter.all false
set_option maxRecDepth 100000
/-! PF16: index and count; the operators by name -/
namespace PF
open PySem PySem.Spec PyProof.Rows L2
section
variable {X : Cx}
def rMth (K : PySem.W.Frag) (o : Op) (T : String) : V → List V → Hp → VK → Prop := fun x xs H Q => ∃ y d k z, xs = [y] ∧ tyD T d ∧ Rd K H x d ∧ Rd K H y k ∧ opD o [d, k] = some z ∧ Meet K H z Q
theorem idxT_py (t : T) : ∀ ts : List T, idxT t ts = PySem.SeqAt.dataPlace (toPys ts) (toPy t)
  | [] => rfl
  | x :: r => by
    have ih := idxT_py t r
    unfold idxT
    simp only [PySem.SeqAt.dataPlace, toPys, List.findIdx?_cons] at ih ⊢
    rw [eqT_py, ih]
theorem cntT_py (t : T) : ∀ ts : List T, (ts.countP fun z => eqT z t) = (toPys ts).countP fun z => PyData.eqv z (toPy t)
  | [] => rfl
  | x :: r => by
    have ih := cntT_py t r
    simp only [toPys, List.countP_cons]
    rw [ih, eqT_py]
/-- the sequence as the library's data -/
theorem seq_reads {pins : List (Addr × Obj)} {s : Shared} {σ : L2.St} {H : Hp} {x : V} {v : Value} {T' : String} {d : D} {ts : List T} (I : Inv X pins σ H s) (rx : RelV x v) (hT : tyD T' d) (h : Rd X.K H x d) (e : seqT d = some ts) :
    ∃ a its as, v = .ref a ∧ its.length ≤ sizeLine ∧ ReadsAll s.heap its (toPys ts) as ∧ ((T' = "list" ∧ s.heap.IsList a its.toArray) ∨ (T' = "tuple" ∧ s.heap.IsTuple a its.toArray)) := by
  rcases hT with ⟨rfl, hn⟩ | ⟨rfl, us, rfl⟩
  · have e2 : items d = some ts := by
      unfold seqT at e
      split at e
      · exact absurd rfl (hn _)
      · exact e
    obtain ⟨a, vs, rfl, hs, r⟩ := h.items e2
    cases rx
    obtain ⟨its, rv, p, hz⟩ := I.list hs
    obtain ⟨as, h4⟩ := Dp.readsAll I (toPys ts) _ its r.dp rv
    exact ⟨a, its, as, rfl, by rw [← rv.length]; exact hz, h4, .inl ⟨rfl, p.isList⟩⟩
  · cases e
    obtain ⟨a, vs, rfl, hs, r⟩ := h.tup
    cases rx
    obtain ⟨its, rv, p, hz⟩ := I.tuple hs
    obtain ⟨as, h4⟩ := Dp.readsAll I (toPys ts) _ its r.dp rv
    exact ⟨a, its, as, rfl, by rw [← rv.length]; exact hz, h4, .inr ⟨rfl, p⟩⟩
theorem room31 {t : T} (hu : X.A.units + 65 < cLine) (h : okT 31 t = true) (n : Nat) : X.A.units + 1 + min n (toPy t).depth < cLine := by
  have := depth_py 31 t h
  omega
theorem mt_index {T' : String} {id : String} (hT : (T' = "list" ∧ id = "list.index") ∨ (T' = "tuple" ∧ id = "tuple.index")) (hu : X.A.units + 65 < cLine) : MtR X id (rMth X.K .index T') := by
  intro pins s σ H x xs v us Q I rx rxs ⟨y, d, k, z, ex, ht, hx, hy, e, q⟩
  subst ex
  obtain ⟨u, rfl, ry⟩ := vals1 rxs
  change indexD [d, k] = some z at e
  unfold indexD at e
  split at e
  · rename_i d' t heq
    cases heq
    split at e
    · rename_i ts e1
      split at e
      · rename_i ok
        cases e2 : idxT t ts with
        | none => rw [e2] at e; cases e
        | some j =>
          rw [e2] at e
          cases e
          rw [idxT_py] at e2
          obtain ⟨a, its, as, rfl, hz, rs, hk⟩ := seq_reads I rx ht hx e1
          obtain ⟨bs, rt⟩ := Dp.reads I (toPy t) y u hy.rt.dp ry
          have rs' : ReadsAll s.heap its.toArray.toList (toPys ts) as := rs
          obtain ⟨hj, hit, hno⟩ := PySem.SeqAt.hit_at (d := toPy t) rs' (plains_py ts) e2
          have items := SeqAt.items_plain (A := X.A) rs' rt (plains_py ts) (plain_py t) (room31 hu ok _)
          have fin : EP X pins σ Q (.int (j : Nat) s.toks) { s with toks := s.toks + 1 } := ⟨.int (j : Nat), H, I.tok _, ⟨_, rfl⟩, q _ _ (.int _)⟩
          have hjz : j < 16777216 := by
            have := sizeLine_eq
            simp only [List.size_toArray] at hj
            omega
          rcases hk with ⟨rfl, hl⟩ | ⟨rfl, hl⟩
          · have hl' := hl
            obtain ⟨⟨cls, dd, data, sls⟩, ho, hc, n, hd⟩ := hl'
            simp only at hc hd
            subst hc hd
            rcases hT with ⟨_, rfl⟩ | ⟨h, _⟩
            · exact call_meets PySem.F.slot_list_index ⟨_, ho, rfl⟩ PySem.F.entry_list_index (PySem.F.args_list_index_2 _ _) (SeqAt.list_indexAt a its.toArray n dd sls u (fun w => PyData.eqv (SeqAt.readOf s.heap w) (toPy t)) j hj (by omega) hit hno) ⟨ho, items, fin⟩
            · exact absurd h (by decide)
          · have hl' := hl
            obtain ⟨⟨cls, dd, data, sls⟩, ho, hc, n, hd⟩ := hl'
            simp only at hc hd
            subst hc hd
            rcases hT with ⟨h, _⟩ | ⟨_, rfl⟩
            · exact absurd h (by decide)
            · exact call_meets PySem.F.slot_tuple_index ⟨_, ho, rfl⟩ PySem.F.entry_tuple_index (PySem.F.args_tuple_index_2 _ _) (TI.tuple_indexAt a its.toArray n dd sls u (fun w => PyData.eqv (SeqAt.readOf s.heap w) (toPy t)) j hj hit hno) ⟨ho, items, fin⟩
      · cases e
    · cases e
  · cases e
theorem mt_count {T' : String} {id : String} (hT : (T' = "list" ∧ id = "list.count") ∨ (T' = "tuple" ∧ id = "tuple.count")) (hu : X.A.units + 65 < cLine) : MtR X id (rMth X.K .count T') := by
  intro pins s σ H x xs v us Q I rx rxs ⟨y, d, k, z, ex, ht, hx, hy, e, q⟩
  subst ex
  obtain ⟨u, rfl, ry⟩ := vals1 rxs
  change countD [d, k] = some z at e
  unfold countD at e
  split at e
  · rename_i d' t heq
    cases heq
    split at e
    · rename_i ts e1
      split at e
      · rename_i ok
        cases e
        obtain ⟨a, its, as, rfl, hz, rs, hk⟩ := seq_reads I rx ht hx e1
        obtain ⟨bs, rt⟩ := Dp.reads I (toPy t) y u hy.rt.dp ry
        have rs' : ReadsAll s.heap its.toArray.toList (toPys ts) as := rs
        have fin : EP X pins σ Q (.int (((toPys ts).countP fun z => PyData.eqv z (toPy t) : Nat) : Int) s.toks) { s with toks := s.toks + 1 } := ⟨.int _, H, I.tok _, ⟨_, rfl⟩, by rw [← cntT_py]; exact q _ _ (.int _)⟩
        rcases hk with ⟨rfl, hl⟩ | ⟨rfl, hl⟩
        · rcases hT with ⟨_, rfl⟩ | ⟨h, _⟩
          · exact SeqAt.count_list_data hl rs' rt (plains_py ts) (plain_py t) (room31 hu ok _) fin
          · exact absurd h (by decide)
        · rcases hT with ⟨h, _⟩ | ⟨_, rfl⟩
          · exact absurd h (by decide)
          · exact SeqAt.count_tuple_data hl rs' rt (plains_py ts) (plain_py t) (room31 hu ok _) fin
      · cases e
    · cases e
  · cases e
theorem mf_index (hu : X.A.units + 65 < cLine) : MtF X "index" (rMth X.K .index) := ⟨fun T' h => by
  rcases h with rfl | rfl
  · exact ⟨"list.index", PySem.F.plainAttrs_list, PySem.F.slot_list_index, PySem.F.type_list_index, mt_index (.inl ⟨rfl, rfl⟩) hu⟩
  · exact ⟨"tuple.index", PySem.F.plainAttrs_tuple, PySem.F.slot_tuple_index, PySem.F.type_tuple_index, mt_index (.inr ⟨rfl, rfl⟩) hu⟩⟩
theorem mf_count (hu : X.A.units + 65 < cLine) : MtF X "count" (rMth X.K .count) := ⟨fun T' h => by
  rcases h with rfl | rfl
  · exact ⟨"list.count", PySem.F.plainAttrs_list, PySem.F.slot_list_count, PySem.F.type_list_count, mt_count (.inl ⟨rfl, rfl⟩) hu⟩
  · exact ⟨"tuple.count", PySem.F.plainAttrs_tuple, PySem.F.slot_tuple_count, PySem.F.type_tuple_count, mt_count (.inr ⟨rfl, rfl⟩) hu⟩⟩

/-! ### the operators -/
/-- a two-place operation answers as o says -/
def O2 (X : Cx) (f : Value → Value → Sem Value) (o : Op) : Prop := OpR X f fun x y H Q => ∃ d e z, Rd X.K H x d ∧ Rd X.K H y e ∧ opD o [d, e] = some z ∧ Meet X.K H z Q
theorem O2.of {f : Value → Value → Sem Value} {o : Op} {r : R2} (h : OpR X f r) (i : ∀ x y H Q d e z, opD o [d, e] = some z → Rd X.K H x d → Rd X.K H y e → Meet X.K H z Q → r x y H Q) : O2 X f o :=
  fun pins s σ H x y v u Q I rx ry ⟨d, e, z, hx, hy, ez, q⟩ => h pins s σ H x y v u Q I rx ry (i _ _ _ _ _ _ _ ez hx hy q)
def binO : Operator → Option Op
  | .Add => some .add | .Sub => some .sub | .Mult => some .mul | .FloorDiv => some .fdiv | .Mod => some .mod | .Pow => some .pow | .LShift => some .shl | .RShift => some .shr
  | .BitAnd => some .band | .BitOr => some .bor | .BitXor => some .bxor
  | _ => none
theorem bin_ok {op : Operator} {o : Op} (h : binO op = some o) : O2 X (binaryOp op) o := by
  cases op <;> cases h
  · exact .of or_add fun _ _ _ _ _ _ _ e hx hy q => s_add e hx hy q
  · exact .of op_sub fun _ _ _ _ _ _ _ e hx hy q => s_sub e hx hy q
  · exact .of or_mul fun _ _ _ _ _ _ _ e hx hy q => s_mul e hx hy q
  · exact .of op_mod fun _ _ _ _ _ _ _ e hx hy q => s_mod e hx hy q
  · exact .of op_pow fun _ _ _ _ _ _ _ e hx hy q => s_pow e hx hy q
  · exact .of op_shl fun _ _ _ _ _ _ _ e hx hy q => s_shl e hx hy q
  · exact .of op_shr fun _ _ _ _ _ _ _ e hx hy q => s_shr e hx hy q
  · exact .of op_or fun _ _ _ _ _ _ _ e hx hy q => s_bit e hx hy q
  · exact .of op_xor fun _ _ _ _ _ _ _ e hx hy q => s_bit e hx hy q
  · exact .of op_and fun _ _ _ _ _ _ _ e hx hy q => s_bit e hx hy q
  · exact .of op_fdivW fun _ _ _ _ _ _ _ e hx hy q => s_fdiv e hx hy q
def cmpO : CmpOp → Op
  | .Eq => .eq | .NotEq => .ne | .Lt => .lt | .LtE => .le | .Gt => .gt | .GtE => .ge | .Is => .is | .IsNot => .isn | .In => .inn | .NotIn => .nin
theorem cmp_ok {op : CmpOp} (hu : X.A.units + 65 < cLine) : O2 X (compareOp op) (cmpO op) := by
  cases op
  · exact .of (or_eq (by omega)) fun _ _ _ _ _ _ _ e hx hy q => s_eq e hx hy q
  · exact .of (or_ne (by omega)) fun _ _ _ _ _ _ _ e hx hy q => s_eq e hx hy q
  · exact .of op_lt fun _ _ _ _ _ _ _ e hx hy q => s_cmp e hx hy q
  · exact .of op_le fun _ _ _ _ _ _ _ e hx hy q => s_cmp e hx hy q
  · exact .of op_gt fun _ _ _ _ _ _ _ e hx hy q => s_cmp e hx hy q
  · exact .of op_ge fun _ _ _ _ _ _ _ e hx hy q => s_cmp e hx hy q
  · exact .of or_is fun _ _ _ _ _ _ _ e hx hy q => s_is e hx hy q
  · exact .of or_isn fun _ _ _ _ _ _ _ e hx hy q => s_is e hx hy q
  · exact .of (or_in hu) fun _ _ _ _ _ _ _ e hx hy q => s_in e hx hy q
  · exact .of (or_nin hu) fun _ _ _ _ _ _ _ e hx hy q => s_in e hx hy q
theorem cmp_B {op : CmpOp} {ds : List D} {z : D} (h : opD (cmpO op) ds = some z) : ∃ k, z = B k := by
  have k1 : ∀ {neg : Bool} {ds : List D}, eqOp neg ds = some z → ∃ k, z = B k := fun {neg ds} h => by
    unfold eqOp at h
    split at h
    · rename_i a b
      cases e : eqD a b with
      | none => rw [e] at h; cases h
      | some k => rw [e] at h; cases h; exact ⟨_, rfl⟩
    · cases h
  have k2 : ∀ {f : Int → Int → Bool}, cmpD f ds = some z → ∃ k, z = B k := fun {f} h => by
    unfold cmpD at h
    split at h <;> cases h
    exact ⟨_, rfl⟩
  have k3 : ∀ {neg : Bool}, isD neg ds = some z → ∃ k, z = B k := fun {f} h => by
    unfold isD at h
    split at h <;> cases h <;> exact ⟨_, rfl⟩
  have k4 : ∀ {neg : Bool}, inD neg ds = some z → ∃ k, z = B k := fun {f} h => by
    unfold inD at h
    split at h
    · split at h
      · split at h
        · cases h; exact ⟨_, rfl⟩
        · cases h
      · cases h
    · cases h
  cases op
  · exact k1 h
  · exact k1 h
  · exact k2 h
  · exact k2 h
  · exact k2 h
  · exact k2 h
  · exact k3 h
  · exact k3 h
  · exact k4 h
  · exact k4 h
end
end PF

set_option Elab.async false
set_option linter.all false
set_option maxRecDepth 100000
/-! PF17: from the text to the interpreter's expressions -/
namespace PF
open PySem PySem.Spec PyProof.Rows L2

/-- what a text's names mean: the places, the defs that are called, the constants, the built-ins -/
structure Ctx where
  N : List Str
  fs : List Str
  gs : List (Str × T)
  bl : List Str
def ixOf (x : Str) : List Str → Option Nat
  | [] => none
  | y :: r => if y = x then some 0 else (ixOf x r).map (· + 1)
theorem ixOf_get {x : Str} : ∀ {N : List Str} {i : Nat}, ixOf x N = some i → N[i]? = some x
  | [], _, h => by cases h
  | y :: r, i, h => by
    unfold ixOf at h
    split at h
    · rename_i e
      cases h
      rw [e]; rfl
    · cases e : ixOf x r with
      | none => rw [e] at h; cases h
      | some j =>
        rw [e] at h; cases h
        exact ixOf_get (N := r) e
def visB (sc : Scope) (x : Str) : Bool := match sc.names.lookup x with
  | some .local => true | some .cell => true | some .free => true | _ => false
def glB (sc : Scope) (x : Str) : Bool := match sc.names.lookup x with
  | some .globalImplicit => true | _ => false
def locB (sc : Scope) (x : Str) : Bool := match sc.names.lookup x with
  | some .local => true | some .cell => true | _ => false
def okNm (x : Str) : Bool := !(x == ("__debug__" : Str)) && !(x == ("__classdict__" : Str)) && !(x == ("__name__" : Str))
theorem visB_of {sc : Scope} {x : Str} (h : visB sc x = true) : Vis sc x := by
  unfold visB at h
  split at h
  · exact .inl (by assumption)
  · exact .inr (.inl (by assumption))
  · exact .inr (.inr (by assumption))
  · cases h
theorem locB_of {sc : Scope} {x : Str} (h : locB sc x = true) : Loc sc x := by
  unfold locB at h
  split at h
  · exact .inl (by assumption)
  · exact .inr (by assumption)
  · cases h
theorem okNm_of {x : Str} (h : okNm x = true) : (x == ("__debug__" : Str)) = false ∧ (x == ("__classdict__" : Str)) = false ∧ x ≠ "__name__" := by
  unfold okNm at h
  simp only [Bool.and_eq_true, Bool.not_eq_true'] at h
  exact ⟨h.1.1, h.1.2, by simpa using h.2⟩
def cstS : Const → Option T
  | .none => some .non
  | .bool b => some (.bl b)
  | .int i => some (.int i)
  | .str x => some (.str x)
  | _ => none
/-- built-ins of values -/
def blt1 (f : Str) : Option Op :=
  if f = "len" then some .len else if f = "all" then some .all else if f = "any" then some .any else if f = "sum" then some .sum else if f = "max" then some .max1 else if f = "min" then some .min1
  else if f = "abs" then some .abs else if f = "int" then some .int else if f = "str" then some .str else if f = "tuple" then some .tuple else if f = "list" then some .list else if f = "sorted" then some .sorted else none
def blt2 (f : Str) : Option Op := if f = "max" then some .max2 else if f = "min" then some .min2 else none
def tyN (f : Str) : Option String :=
  if f = "int" then some "int" else if f = "bool" then some "bool" else if f = "str" then some "str" else if f = "tuple" then some "tuple" else if f = "list" then some "list" else if f = "dict" then some "dict" else none
def optL (f : Expr → Option Ex) : List Expr → Option (List Ex)
  | [] => some []
  | e :: es => match f e, optL f es with
    | some x, some xs => some (x :: xs)
    | _, _ => none
def joinB (op : BoolOp) : List Ex → Option Ex
  | [] => none
  | [a] => some a
  | a :: r => (joinB op r).map fun b => match op with | .And => .and_ a b | .Or => .or_ a b
def slotS (Δ : Ctx) (sc : Scope) : Expr → Option (Str × Nat)
  | .Name x _ => if locB sc x then (ixOf x Δ.N).map fun i => (x, i) else none
  | _ => none
def slotsS (Δ : Ctx) (sc : Scope) : List Expr → Option (List (Str × Nat))
  | [] => some []
  | e :: es => match slotS Δ sc e, slotsS Δ sc es with
    | some x, some xs => some (x :: xs)
    | _, _ => none
/-- a target's names -/
def tgS (Δ : Ctx) (sc : Scope) : Expr → Option (Tg × List (Str × Nat))
  | .Name x p => (slotS Δ sc (.Name x p)).map fun y => (.one y.2, [y])
  | .Tuple es _ _ => (slotsS Δ sc es).map fun l => (.many (l.map (·.2)), l)
  | _ => none
def isTupE : Expr → Bool
  | .Tuple _ _ _ => true
  | _ => false
def plainRecv : Expr → Bool
  | .Call (.Name _ _) [] [] _ => false
  | _ => true
/-- what is walked -/
def iterS (Δ : Ctx) (sc : Scope) (f : Expr → Option Ex) (tup : Bool) : Expr → Option (Nat × List Ex)
  | .Call (.Name x p) es [] pos =>
    if glB sc x && okNm x && Δ.bl.contains x && x = "range" then match es with
      | [a] => (f a).map fun a => (1, [a])
      | [a, b] => match f a, f b with
        | some a, some b => some (2, [a, b])
        | _, _ => none
      | _ => none
    else if glB sc x && okNm x && Δ.bl.contains x && tup && x = "enumerate" then match es with
      | [a] => (f a).map fun a => (3, [a])
      | _ => none
    else if glB sc x && okNm x && Δ.bl.contains x && tup && x = "zip" then match es with
      | [a, b] => match f a, f b with
        | some a, some b => some (4, [a, b])
        | _, _ => none
      | _ => none
    else (f (.Call (.Name x p) es [] pos)).map fun a => (0, [a])
  | .Set _ _ _ => none
  | e => (f e).map fun a => (0, [a])
def strip (Δ : Ctx) : Nat → Scope → Expr → Option Ex
  | 0, _, _ => none
  | n + 1, sc, e => match e with
    | .Constant c _ _ => (cstS c).map .cst
    | .Name x _ => if !okNm x then none else if visB sc x then (ixOf x Δ.N).map .nm else if glB sc x then (Δ.gs.lookup x).map .cst else none
    | .BinOp a op b _ => match binO op, strip Δ n sc a, strip Δ n sc b with
      | some o, some x, some y => some (.op o [x, y])
      | _, _, _ => none
    | .UnaryOp .Not a _ => (strip Δ n sc a).map .not_
    | .UnaryOp .USub a _ => (strip Δ n sc a).map fun x => .op .neg [x]
    | .BoolOp op vs _ => (optL (strip Δ n sc) vs).bind (joinB op)
    | .Compare a [op] [b] _ => if behindInMarks op b then none else match strip Δ n sc a, strip Δ n sc b with
      | some x, some y => some (.op (cmpO op) [x, y])
      | _, _ => none
    | .Compare a [o1, o2] [b, c] _ => if lastMarks [o1, o2] [b, c] then none else match strip Δ n sc a, strip Δ n sc b, strip Δ n sc c with
      | some x, some y, some z => some (.chain (cmpO o1) (cmpO o2) x y z)
      | _, _, _ => none
    | .IfExp c a b _ => match strip Δ n sc c, strip Δ n sc a, strip Δ n sc b with
      | some x, some y, some z => some (.ifx x y z)
      | _, _, _ => none
    | .Tuple es _ _ => (optL (strip Δ n sc) es).map .tup
    | .List es _ => (optL (strip Δ n sc) es).map .lst
    | .Subscript a (.Slice none none none _) _ => (strip Δ n sc a).map fun x => .op (.slice false false) [x]
    | .Subscript a (.Slice (some l) none none _) _ => match strip Δ n sc a, strip Δ n sc l with
      | some x, some y => some (.op (.slice true false) [x, y])
      | _, _ => none
    | .Subscript a (.Slice none (some l) none _) _ => match strip Δ n sc a, strip Δ n sc l with
      | some x, some y => some (.op (.slice false true) [x, y])
      | _, _ => none
    | .Subscript a (.Slice (some l) (some h) none _) _ => match strip Δ n sc a, strip Δ n sc l, strip Δ n sc h with
      | some x, some y, some z => some (.slc x y z)
      | _, _, _ => none
    | .Subscript _ (.Slice _ _ _ _) _ => none
    | .Subscript a b _ => match strip Δ n sc a, strip Δ n sc b with
      | some x, some y => some (.idx x y)
      | _, _ => none
    | .ListComp elt [⟨tg, iter, ifs, 0⟩] scope _ => match tgS Δ scope tg with
      | some (t, own) => if blkC Δ.N sc scope own && decide (ifs.length ≤ 1) then match iterS Δ sc (strip Δ n sc) (isTupE tg) iter, optL (strip Δ n (relS scope sc)) ifs, strip Δ n (relS scope sc) elt with
        | some (k, src), some cs, some x => some (.comp x t k src cs)
        | _, _, _ => none
        else none
      | none => none
    | .Call (.Name f p) args [] pos => if !(glB sc f && okNm f) then none else match ixOf f Δ.fs with
      | some k => (optL (strip Δ n sc) args).map fun xs => .call k xs
      | none => if !Δ.bl.contains f then none else match args with
        | [.Call (.Name g p2) rs [] pos2] =>
          if f = "list" ∧ g = "range" ∧ glB sc g ∧ Δ.bl.contains g then match rs with
            | [a] => (strip Δ n sc a).map fun x => .op .lrng1 [x]
            | [a, b] => match strip Δ n sc a, strip Δ n sc b with
              | some x, some y => some (.op .lrng2 [x, y])
              | _, _ => none
            | _ => none
          else if f = "tuple" ∧ g = "range" ∧ glB sc g ∧ Δ.bl.contains g then match rs with
            | [a] => (strip Δ n sc a).map fun x => .op .trng1 [x]
            | [a, b] => match strip Δ n sc a, strip Δ n sc b with
              | some x, some y => some (.op .trng2 [x, y])
              | _, _ => none
            | _ => none
          else match blt1 f, strip Δ n sc (.Call (.Name g p2) rs [] pos2) with
            | some o, some x => some (.op o [x])
            | _, _ => none
        | [a] => match blt1 f, strip Δ n sc a with
          | some o, some x => some (.op o [x])
          | _, _ => none
        | [a, b] => if f = "isinstance" then match b with
            | .Name t _ => if glB sc t && okNm t && Δ.bl.contains t then match strip Δ n sc a, tyN t with
              | some x, some nm => some (.op (.isi nm) [x])
              | _, _ => none
              else none
            | _ => none
          else match blt2 f, strip Δ n sc a, strip Δ n sc b with
            | some o, some x, some y => some (.op o [x, y])
            | _, _, _ => none
        | _ => none
    | .Call (.Attribute o m apos) [a] [] cpos => if !(apos.endLine == cpos.line && plainRecv o) then none else
      match (if m = "index" then some Op.index else if m = "count" then some Op.count else none), strip Δ n sc o, strip Δ n sc a with
      | some k, some x, some y => some (.mth k x y)
      | _, _, _ => none
    | _ => none
end PF

set_option Elab.async false
set_option linter.all false
set_option maxRecDepth 100000
/-! PF18: the text's expressions answer as the interpreter says -/
namespace PF
open PySem PySem.Spec PyProof.Rows L2
abbrev CXn : CXT := fun _ _ _ _ _ _ => False
theorem passN {X : Cx} {E : XK} : Passes CXn X E := fun _ _ _ _ _ _ _ h => h.elim
/-- a def that is called -/
structure Cal (X : Cx) (c : CT) (f : Str) where
  a : Addr
  fd : FuncData
  ps : List Str
  n : Nat
  fn : FnOk X.prog X.w X.K X.mg X.base CXn n a fd ps (spC X.K c)
  room : Room n X.A
  glob : X.mg f = some (.ref a)
  kp : PySem.W.keepIn X.K (.ref a) = true
  bi : Binds X.K fd ps []
structure Ok (X : Cx) (Δ : Ctx) (Γ : List CT) : Prop where
  N : X.N = Δ.N
  nd : X.N.Nodup
  calm : X.calm = true
  un : X.A.units + 65 < cLine
  fs : ∀ (k : Nat) (f : Str), Δ.fs[k]? = some f → ∃ c, Γ[k]? = some c ∧ Nonempty (Cal X c f)
  gs : ∀ (x : Str) (t : T), Δ.gs.lookup x = some t → ∃ u v, X.mg x = some u ∧ RelV v u ∧ ∀ H, RT X.K H v t
  bl : ∀ b : Str, Δ.bl.contains b = true → X.mg b = none
theorem Ok.blk {X : Cx} {Δ : Ctx} {Γ : List CT} (o : Ok X Δ Γ) (s : Shared) (H : Hp) (scope : Scope) (ce : Env) (fp : List Addr) : Ok (X.blk s H scope ce fp) Δ Γ :=
  ⟨o.N, o.nd, o.calm, o.un, fun k f h => by
    obtain ⟨c, h1, ⟨l⟩⟩ := o.fs k f h
    exact ⟨c, h1, ⟨⟨l.a, l.fd, l.ps, l.n, l.fn, l.room, l.glob, l.kp, l.bi⟩⟩⟩, o.gs, o.bl⟩
theorem PEi {X : Cx} {e : Expr} {t t' : TE} (h : PE X e t) (i : ∀ σ H Q, t' σ H Q → t σ H Q) : PE X e t' := ⟨fun pins s σ H Q I q => h.run pins s σ H Q I (i _ _ _ q)⟩
theorem PTi {X : Cx} {e : Expr} {t t' : TT} (h : PT X e t) (i : ∀ σ H Q, t' σ H Q → t σ H Q) : PT X e t' := ⟨fun pins s σ H Q I q => h.run pins s σ H Q I (i _ _ _ q)⟩
theorem PWi {X : Cx} {e : Expr} {t t' : TT} (h : PW X e t) (i : ∀ σ H Q, t' σ H Q → t σ H Q) : PW X e t' := ⟨fun w pins s σ H Q I q => h.run w pins s σ H Q I (i _ _ _ q)⟩
theorem PAi {X : Cx} {e : List Expr} {t t' : TA} (h : PA X e t) (i : ∀ σ H Q, t' σ H Q → t σ H Q) : PA X e t' := ⟨fun p pins s σ H Q I q => h.run p pins s σ H Q I (i _ _ _ q)⟩
theorem PIi {X : Cx} {tg e : Expr} {t t' : TI} (h : PI X tg e t) (i : ∀ σ H Q, t' σ H Q → t σ H Q) : PI X tg e t' := ⟨fun pins s σ H Q I q => h.run pins s σ H Q I (i _ _ _ q)⟩
def noStar : Expr → Bool
  | .Starred _ _ => false
  | _ => true
theorem star1 {e : Expr} {es : List Expr} {env : Env} (h : noStar e = true) : starEach (e :: es) env = (false, eval e env) :: starEach es env := by
  cases e <;> first | rfl | cases h
theorem starAny {env : Env} {pos : Pos} : ∀ {es : List Expr}, (∀ e ∈ es, noStar e = true) → (backTo pos (starEach es env)).any (·.1) = false
  | [], _ => rfl
  | e :: es, h => by
    rw [star1 (h e List.mem_cons_self)]
    show (false || (backTo pos (starEach es env)).any (·.1)) = false
    rw [starAny fun x hx => h x (List.mem_cons_of_mem _ hx)]
    rfl
theorem strip_star {Δ : Ctx} {n : Nat} {sc : Scope} {e : Expr} {x : Ex} (h : strip Δ n sc e = some x) : noStar e = true := by
  cases n with
  | zero => cases h
  | succ n =>
    cases e <;> first | rfl | skip
    simp only [strip] at h
    cases h
theorem attrBase {o : Expr} {m : Str} {env : Env} {w : Sem Value} (h : plainRecv o = true) : attributeBase o m env w = w := by
  unfold attributeBase
  split
  · cases h
  · rfl
theorem noSet {Δ : Ctx} {sc : Scope} {f : Expr → Option Ex} {t : Bool} {e : Expr} {r : Nat × List Ex} (h : iterS Δ sc f t e = some r) (env : Env) (x : Value) : foldedSetIterable e env x = pure x := by
  cases e <;> first | rfl | cases h
theorem plainIx {b : Expr} (h : ∀ l u p, b ≠ .Slice l u none p) : PlainIx b := by
  intro o i
  unfold subscripted
  split
  · exact absurd rfl (h _ _ _)
  · rename_i h2; cases h2
  · rfl
section
variable {X : Cx} {Δ : Ctx} {Γ : List CT}
/-- what is shown of each expression -/
def Good (X : Cx) (Γ : List CT) (e : Expr) (x : Ex) : Prop := PE X e (xE Γ X.K x) ∧ PT X e (xT Γ X.K x)
theorem good_val {e : Expr} {x : Ex} (h : PE X e (xE Γ X.K x)) (he : ∀ whole, isTrue e X.env whole = (do let v ← whole; standAt e.pos; holding [v] (truthy v))) : Good X Γ e x :=
  ⟨h, PTi (pt_truth h he) fun _ _ _ q => t_val q⟩
theorem optL_get {f : Expr → Option Ex} : ∀ {es : List Expr} {xs : List Ex}, optL f es = some xs → ∀ e ∈ es, ∃ x, f e = some x
  | [], _, _, _, h => by cases h
  | e :: es, xs, h, e', he => by
    simp only [optL] at h
    split at h
    · rename_i x ys h1 h2
      rcases List.mem_cons.mp he with rfl | he
      · exact ⟨x, h1⟩
      · exact optL_get h2 e' he
    · cases h
theorem pa_ok {f : Expr → Option Ex} (ih : ∀ e x, f e = some x → Good X Γ e x) (st : ∀ e x, f e = some x → noStar e = true) : ∀ {es : List Expr} {xs : List Ex}, optL f es = some xs → PA X es (xL Γ X.K xs)
  | [], _, h => by cases h; exact PAi pa_nil fun _ _ _ q => xL_nil q
  | e :: es, xs, h => by
    simp only [optL] at h
    split at h
    · rename_i x ys h1 h2
      cases h
      exact PAi (pa_cons (ih e x h1).1 (pa_ok ih st h2) (star1 (st e x h1))) fun _ _ _ q => xL_cons q
    · cases h
theorem all_star {f : Expr → Option Ex} (st : ∀ e x, f e = some x → noStar e = true) {es : List Expr} {xs : List Ex} (h : optL f es = some xs) : ∀ e ∈ es, noStar e = true := fun e he => by
  obtain ⟨x, hx⟩ := optL_get h e he
  exact st e x hx
theorem bool_ok {op : BoolOp} {pos : Pos} {f : Expr → Option Ex} (ih : ∀ e x, f e = some x → Good X Γ e x) : ∀ {vs : List Expr} {xs : List Ex} {x : Ex}, optL f vs = some xs → joinB op xs = some x →
    PE X (.BoolOp op vs pos) (xE Γ X.K x) ∧ PW X (.BoolOp op vs pos) (xT Γ X.K x)
  | [], _, _, h, j => by cases h; cases j
  | [a], xs, x, h, j => by
    simp only [optL] at h
    split at h
    · rename_i y ys h1 h2
      cases h2
      cases h
      cases j
      have g := ih a x h1
      refine ⟨pe_one g.1, ?_⟩
      cases op with
      | And => exact pw_and1 g.2
      | Or => exact pw_or1 g.2
    · cases h
  | a :: b :: r, xs, x, h, j => by
    simp only [optL] at h
    split at h
    · rename_i y ys h1 h2
      have h2' : optL f (b :: r) = some ys := h2
      cases h
      cases ys with
      | nil => simp only [optL] at h2'; split at h2' <;> cases h2'
      | cons z zs =>
        simp only [joinB] at j
        cases e : joinB op (z :: zs) with
        | none => rw [e] at j; cases j
        | some w =>
          rw [e] at j
          have g := ih a y h1
          have rc := bool_ok (op := op) (pos := pos) ih h2' e
          cases op with
          | And =>
            cases j
            exact ⟨PEi (pe_andT g.1 rc.1) fun _ _ _ q => x_and q, PWi (pw_and g.2 rc.2) fun _ _ _ q => t_and q⟩
          | Or =>
            cases j
            exact ⟨PEi (pe_orT g.1 rc.1) fun _ _ _ q => x_or q, PWi (pw_or g.2 rc.2) fun _ _ _ q => t_or q⟩
    · cases h
/-- two arguments of an operator -/
theorem x_op2 {K : PySem.W.Frag} {σ : L2.St} {H : Hp} {o : Op} {x y : Ex} {Q : VK} (h : xE Γ K (.op o [x, y]) σ H Q) : xE Γ K x σ H fun v H1 => xE Γ K y σ H1 fun u H2 => ∃ d e z, Rd K H2 v d ∧ Rd K H2 u e ∧ opD o [d, e] = some z ∧ Meet K H2 z Q :=
  (xL_two (x_op h)).mono fun v H1 h => h.mono fun u H2 ⟨ds, z, r, e, m⟩ => by
    cases r with
    | cons r1 t =>
      cases t with
      | cons r2 t => cases t; exact ⟨_, _, z, r1, r2, e, m⟩
theorem x_op1 {K : PySem.W.Frag} {σ : L2.St} {H : Hp} {o : Op} {x : Ex} {Q : VK} (h : xE Γ K (.op o [x]) σ H Q) : xE Γ K x σ H fun v H1 => ∃ d z, Rd K H1 v d ∧ opD o [d] = some z ∧ Meet K H1 z Q :=
  (xL_one (x_op h)).mono fun v H1 ⟨ds, z, r, e, m⟩ => by
    cases r with
    | cons r1 t => cases t; exact ⟨_, z, r1, e, m⟩
/-- a test whose value is a bool -/
theorem t_bl {K : PySem.W.Frag} {σ : L2.St} {H : Hp} {x : Ex} {Q : Bool → Hp → Prop} (hb : ∀ q ρ r ρ', ev Γ q x ρ = some (r, ρ') → ∃ k, r = .rv (B k)) (h : xT Γ K x σ H Q) : tTest (xE Γ K x) σ H Q := by
  obtain ⟨β, q, ρ, F, r, ρ', k, p, e, ek, kk⟩ := h
  obtain ⟨b, rfl⟩ := hb q ρ r ρ' e
  cases ek
  refine ⟨β, q, ρ, F, _, ρ', p, e, fun v H' F' G h => ⟨k, ?_, kk H' F' h.t⟩⟩
  exact (h.rr.rd h.eo rfl).bl
theorem ev_cmp {op : CmpOp} {xs : List Ex} {q : Bool} {ρ ρ' : List S} {r : R} (h : ev Γ q (.op (cmpO op) xs) ρ = some (r, ρ')) : ∃ k, r = .rv (B k) := by
  simp only [ev] at h
  split at h
  · split at h
    · split at h
      · rename_i d e
        cases h
        obtain ⟨k, rfl⟩ := cmp_B e
        exact ⟨k, rfl⟩
      · cases h
    · cases h
  · cases h
theorem ev_chain {o1 o2 : CmpOp} {a b c : Ex} {q : Bool} {ρ ρ' : List S} {r : R} (h : ev Γ q (.chain (cmpO o1) (cmpO o2) a b c) ρ = some (r, ρ')) : ∃ k, r = .rv (B k) := by
  simp only [ev] at h
  split at h
  · split at h
    · split at h
      · split at h
        · split at h
          · split at h
            · split at h
              · split at h
                · rename_i d e
                  cases h
                  obtain ⟨k, rfl⟩ := cmp_B e
                  exact ⟨k, rfl⟩
                · cases h
              · cases h
            · cases h
          · cases h; exact ⟨false, rfl⟩
          · cases h
        · cases h
      · cases h
    · cases h
  · cases h
/-! ### names -/
theorem slot_pg {X : Cx} {Δ : Ctx} {sc : Scope} {e : Expr} {x : Str} {i : Nat} (hN : X.N = Δ.N) (nd : X.N.Nodup) (h : slotS Δ sc e = some (x, i)) (hl : locB sc x = true → Loc X.env.scope x) (hf : locB sc x = true → X.fn x = true ∨ X.env.scope.names.lookup x = some .local) : PG X e (gName i) := by
  unfold slotS at h
  split at h
  · rename_i y p
    split at h
    · rename_i hb
      cases e1 : ixOf y Δ.N with
      | none => rw [e1] at h; cases h
      | some j =>
        rw [e1] at h; cases h
        exact pg_name nd (by rw [hN]; exact ixOf_get e1) (hl hb) (hf hb)
    · cases h
  · cases h
theorem slot_name {Δ : Ctx} {sc : Scope} {e : Expr} {y : Str × Nat} (h : slotS Δ sc e = some y) : ∃ x p, e = .Name x p := by
  unfold slotS at h
  split at h
  · exact ⟨_, _, rfl⟩
  · cases h
theorem slots_pg {X : Cx} {Δ : Ctx} {sc : Scope} (hN : X.N = Δ.N) (nd : X.N.Nodup) (hl : ∀ x, locB sc x = true → Loc X.env.scope x) (hf : ∀ x, locB sc x = true → X.fn x = true ∨ X.env.scope.names.lookup x = some .local) :
    ∀ {es : List Expr} {l : List (Str × Nat)}, slotsS Δ sc es = some l → PGs X es (gNames (l.map (·.2))) ∧ (assignEach es X.env).length = l.length ∧ (assignEach es X.env).findIdx? (·.1) = none
  | [], _, h => by cases h; exact ⟨pgs_nil, rfl, rfl⟩
  | e :: es, l, h => by
    simp only [slotsS] at h
    split at h
    · rename_i y ys h1 h2
      cases h
      obtain ⟨x, i⟩ := y
      obtain ⟨g, hl2, hs⟩ := slots_pg hN nd hl hf h2
      obtain ⟨x', p, rfl⟩ := slot_name h1
      refine ⟨pgs_cons (slot_pg hN nd h1 (hl x) (hf x)) g, ?_, ?_⟩
      · show (assignEach es X.env).length + 1 = _
        rw [hl2]; rfl
      · show (((false, assign (.Name x' p) X.env) :: assignEach es X.env)).findIdx? (·.1) = none
        rw [List.findIdx?_cons]
        simp only [Bool.false_eq_true, if_false, hs, Option.map_none]
    · cases h
theorem tg_pg {X : Cx} {Δ : Ctx} {sc : Scope} {e : Expr} {t : Tg} {own : List (Str × Nat)} (hc : X.calm = true) (hN : X.N = Δ.N) (nd : X.N.Nodup) (h : tgS Δ sc e = some (t, own)) (hl : ∀ x, locB sc x = true → Loc X.env.scope x) (hf : ∀ x, locB sc x = true → X.fn x = true ∨ X.env.scope.names.lookup x = some .local) :
    PG X e (gT X.K t) ∧ own.map (·.2) = t.own := by
  unfold tgS at h
  split at h
  · rename_i x p
    cases e1 : slotS Δ sc (.Name x p) with
    | none => rw [e1] at h; cases h
    | some y =>
      rw [e1] at h; cases h
      obtain ⟨x', i⟩ := y
      exact ⟨slot_pg hN nd e1 (hl x') (hf x'), rfl⟩
  · rename_i es k p
    cases e1 : slotsS Δ sc es with
    | none => rw [e1] at h; cases h
    | some l =>
      rw [e1] at h; cases h
      obtain ⟨g, h1, h2⟩ := slots_pg hN nd hl hf e1
      refine ⟨?_, rfl⟩
      show PG X (.Tuple es k p) (gTup X.K (own.map (·.2)).length (gNames (own.map (·.2))))
      rw [List.length_map]
      exact pg_tup hc g h1 h2
  · cases h
end
end PF

set_option Elab.async false
set_option linter.all false
set_option maxRecDepth 100000
/-! PF19: the built-ins by name, what is walked, comprehensions -/
namespace PF
open PySem PySem.Spec PyProof.Rows L2
section
variable {X : Cx} {Δ : Ctx} {Γ : List CT}
theorem ite_cases {α : Type} {p : Prop} [Decidable p] {a b : Option α} {o : α} (h : (if p then a else b) = some o) : (p ∧ a = some o) ∨ (¬ p ∧ b = some o) := by
  by_cases e : p
  · rw [if_pos e] at h; exact .inl ⟨e, h⟩
  · rw [if_neg e] at h; exact .inr ⟨e, h⟩
theorem bt_len : bootBuiltins "len" = some (.builtin "len") := by decide +kernel
theorem bt_all : bootBuiltins "all" = some (.builtin "all") := by decide +kernel
theorem bt_any : bootBuiltins "any" = some (.builtin "any") := by decide +kernel
theorem bt_sum : bootBuiltins "sum" = some (.builtin "sum") := by decide +kernel
theorem bt_max : bootBuiltins "max" = some (.builtin "max") := by decide +kernel
theorem bt_min : bootBuiltins "min" = some (.builtin "min") := by decide +kernel
theorem bt_abs : bootBuiltins "abs" = some (.builtin "abs") := by decide +kernel
theorem bt_sorted : bootBuiltins "sorted" = some (.builtin "sorted") := by decide +kernel
theorem bt_isi : bootBuiltins "isinstance" = some (.builtin "isinstance") := by decide +kernel
theorem bt_int : bootBuiltins "int" = some (.type "int") := by decide +kernel
theorem bt_bool : bootBuiltins "bool" = some (.type "bool") := by decide +kernel
theorem bt_str : bootBuiltins "str" = some (.type "str") := by decide +kernel
theorem bt_tuple : bootBuiltins "tuple" = some (.type "tuple") := by decide +kernel
theorem bt_list : bootBuiltins "list" = some (.type "list") := by decide +kernel
theorem bt_dict : bootBuiltins "dict" = some (.type "dict") := by decide +kernel
theorem glB_of {sc : Scope} {x : Str} (hs : X.env.scope = sc) (h : glB sc x = true) : Gl X x := by
  unfold glB at h
  split at h
  · rename_i e
    show X.env.scope.names.lookup x = _
    rw [hs]; exact e
  · cases h
theorem cs_pe {id : String} {f : Str} {o : Op} {a : Expr} {x : Ex} {p pos : Pos} (hc : CS X (.builtin id) (opD o)) (hg : Gl X f) (hm : X.mg f = none) (hv : bootBuiltins f = some (.builtin id)) (ha : PE X a (xE Γ X.K x)) (st : noStar a = true) (hn : f ≠ "__name__") (hd : (f == ("__debug__" : Str)) = false) :
    PE X (.Call (.Name f p) [a] [] pos) (xE Γ X.K (.op o [x])) :=
  PEi (pe_callB hc hg hm hv (PAi (pa_cons ha pa_nil (star1 st)) fun _ _ _ q => q) hn hd (star1 st) rfl) fun σ H Q q => by
    refine xE.mono (x_op1 q) fun v H1 ⟨d, z, r, e, m⟩ => ⟨[d], z, .cons r .nil, e, m⟩
theorem ct_pe {T' : String} {f : Str} {o : Op} {a : Expr} {x : Ex} {p pos : Pos} (hc : CS X (.type T') (opD o)) (hg : Gl X f) (hm : X.mg f = none) (hv : bootBuiltins f = some (.type T')) (ha : PE X a (xE Γ X.K x)) (st : noStar a = true) (hn : f ≠ "__name__") (hd : (f == ("__debug__" : Str)) = false) :
    PE X (.Call (.Name f p) [a] [] pos) (xE Γ X.K (.op o [x])) :=
  PEi (pe_callTy hc hg hm hv (PAi (pa_cons ha pa_nil (star1 st)) fun _ _ _ q => q) hn hd (star1 st) rfl) fun σ H Q q => by
    refine xE.mono (x_op1 q) fun v H1 ⟨d, z, r, e, m⟩ => ⟨[d], z, .cons r .nil, e, m⟩
theorem blt1_ok {f : Str} {o : Op} {a : Expr} {x : Ex} {p pos : Pos} (h : blt1 f = some o) (ok : Ok X Δ Γ) (hg : Gl X f) (hb : Δ.bl.contains f = true) (hk : okNm f = true) (ha : PE X a (xE Γ X.K x)) (st : noStar a = true) : PE X (.Call (.Name f p) [a] [] pos) (xE Γ X.K (.op o [x])) := by
  have hm := ok.bl f hb
  obtain ⟨hd, _, hn⟩ := okNm_of hk
  unfold blt1 at h
  rcases ite_cases h with ⟨e, h⟩ | ⟨_, h⟩
  · subst e; cases Option.some.inj h; exact cs_pe cs_len hg hm bt_len ha st hn hd
  rcases ite_cases h with ⟨e, h⟩ | ⟨_, h⟩
  · subst e; cases Option.some.inj h; exact cs_pe (cs_all ok.calm) hg hm bt_all ha st hn hd
  rcases ite_cases h with ⟨e, h⟩ | ⟨_, h⟩
  · subst e; cases Option.some.inj h; exact cs_pe (cs_any ok.calm) hg hm bt_any ha st hn hd
  rcases ite_cases h with ⟨e, h⟩ | ⟨_, h⟩
  · subst e; cases Option.some.inj h; exact cs_pe (cs_sum ok.calm) hg hm bt_sum ha st hn hd
  rcases ite_cases h with ⟨e, h⟩ | ⟨_, h⟩
  · subst e; cases Option.some.inj h; exact cs_pe (cs_max1 ok.calm) hg hm bt_max ha st hn hd
  rcases ite_cases h with ⟨e, h⟩ | ⟨_, h⟩
  · subst e; cases Option.some.inj h; exact cs_pe (cs_min1 ok.calm) hg hm bt_min ha st hn hd
  rcases ite_cases h with ⟨e, h⟩ | ⟨_, h⟩
  · subst e; cases Option.some.inj h; exact cs_pe cs_abs hg hm bt_abs ha st hn hd
  rcases ite_cases h with ⟨e, h⟩ | ⟨_, h⟩
  · subst e; cases Option.some.inj h; exact ct_pe cs_int hg hm bt_int ha st hn hd
  rcases ite_cases h with ⟨e, h⟩ | ⟨_, h⟩
  · subst e; cases Option.some.inj h; exact ct_pe cs_str hg hm bt_str ha st hn hd
  rcases ite_cases h with ⟨e, h⟩ | ⟨_, h⟩
  · subst e; cases Option.some.inj h; exact ct_pe cs_tuple hg hm bt_tuple ha st hn hd
  rcases ite_cases h with ⟨e, h⟩ | ⟨_, h⟩
  · subst e; cases Option.some.inj h; exact ct_pe cs_list hg hm bt_list ha st hn hd
  rcases ite_cases h with ⟨e, h⟩ | ⟨_, h⟩
  · subst e; cases Option.some.inj h; exact cs_pe cs_sorted hg hm bt_sorted ha st hn hd
  cases h
theorem cs_pe2 {id : String} {f : Str} {o : Op} {a b : Expr} {x y : Ex} {p pos : Pos} (hc : CS X (.builtin id) (opD o)) (hg : Gl X f) (hm : X.mg f = none) (hv : bootBuiltins f = some (.builtin id)) (ha : PE X a (xE Γ X.K x)) (hb : PE X b (xE Γ X.K y)) (st : noStar a = true) (st2 : noStar b = true) (hn : f ≠ "__name__") (hd : (f == ("__debug__" : Str)) = false) :
    PE X (.Call (.Name f p) [a, b] [] pos) (xE Γ X.K (.op o [x, y])) :=
  PEi (pe_callB hc hg hm hv (PAi (pa_cons ha (pa_cons hb pa_nil (star1 st2)) (star1 st)) fun _ _ _ q => q) hn hd (star1 st) (starAny fun e he => by rw [List.mem_singleton.mp he]; exact st2)) fun σ H Q q => by
    refine xE.mono (x_op2 q) fun v H1 h => h.mono fun u H2 ⟨d, e, z, r, r2, ez, m⟩ => ⟨[d, e], z, .cons r (.cons r2 .nil), ez, m⟩
theorem blt2_ok {f : Str} {o : Op} {a b : Expr} {x y : Ex} {p pos : Pos} (h : blt2 f = some o) (ok : Ok X Δ Γ) (hg : Gl X f) (hb : Δ.bl.contains f = true) (hk : okNm f = true) (ha : PE X a (xE Γ X.K x)) (hb' : PE X b (xE Γ X.K y)) (st : noStar a = true) (st2 : noStar b = true) : PE X (.Call (.Name f p) [a, b] [] pos) (xE Γ X.K (.op o [x, y])) := by
  have hm := ok.bl f hb
  obtain ⟨hd, _, hn⟩ := okNm_of hk
  unfold blt2 at h
  rcases ite_cases h with ⟨e, h⟩ | ⟨_, h⟩
  · subst e; cases Option.some.inj h; exact cs_pe2 (cs_max2 ok.calm) hg hm bt_max ha hb' st st2 hn hd
  rcases ite_cases h with ⟨e, h⟩ | ⟨_, h⟩
  · subst e; cases Option.some.inj h; exact cs_pe2 (cs_min2 ok.calm) hg hm bt_min ha hb' st st2 hn hd
  cases h
theorem tyN_ok {t : Str} {nm : String} (h : tyN t = some nm) : bootBuiltins t = some (.type nm) := by
  unfold tyN at h
  rcases ite_cases h with ⟨e, h⟩ | ⟨_, h⟩
  · subst e; cases Option.some.inj h; exact bt_int
  rcases ite_cases h with ⟨e, h⟩ | ⟨_, h⟩
  · subst e; cases Option.some.inj h; exact bt_bool
  rcases ite_cases h with ⟨e, h⟩ | ⟨_, h⟩
  · subst e; cases Option.some.inj h; exact bt_str
  rcases ite_cases h with ⟨e, h⟩ | ⟨_, h⟩
  · subst e; cases Option.some.inj h; exact bt_tuple
  rcases ite_cases h with ⟨e, h⟩ | ⟨_, h⟩
  · subst e; cases Option.some.inj h; exact bt_list
  rcases ite_cases h with ⟨e, h⟩ | ⟨_, h⟩
  · subst e; cases Option.some.inj h; exact bt_dict
  cases h
theorem isi_ok {f t : Str} {nm : String} {a : Expr} {x : Ex} {p p2 pos : Pos} (hf : f = "isinstance") (ht : tyN t = some nm) (ok : Ok X Δ Γ) (hg : Gl X f) (hb : Δ.bl.contains f = true) (hg2 : Gl X t) (hb2 : Δ.bl.contains t = true) (hk2 : okNm t = true) (ha : PE X a (xE Γ X.K x)) (st : noStar a = true) :
    PE X (.Call (.Name f p) [a, .Name t p2] [] pos) (xE Γ X.K (.op (.isi nm) [x])) := by
  subst hf
  obtain ⟨hd, _, hn⟩ := okNm_of hk2
  refine PEi (pe_callB (cs_isi (n := nm)) hg (ok.bl _ hb) bt_isi (pa_cons ha (pa_cons (pe_bltn (v := .ty nm) hg2 (ok.bl _ hb2) (tyN_ok ht) rfl hn hd) pa_nil) (star1 st)) (by decide) (by decide) (star1 st) rfl) fun σ H Q q => ?_
  exact xE.mono (x_op1 q) fun v H1 ⟨d, z, r, e, m⟩ => ⟨v, d, z, rfl, r, e, m⟩
theorem rng_ok {a b : Int} (h : rngOk a b = true) (hl : (b - a).toNat ≤ LIM) : RgOk a b := by
  obtain ⟨h1, h2, h3, h4⟩ := rngOk_of h
  refine ⟨h1, h2, h3, h4, ?_⟩
  show _ ≤ 16777216
  exact hl
theorem rgV_rts {K : PySem.W.Frag} {H : Hp} (a b : Int) : RTs K H (rgV a b) (rngL a b) := by
  have key : ∀ n : Nat, ∀ l : List Nat, RTs K H (l.map fun i => V.int (a + (i : Nat))) (l.map fun (i : Nat) => T.int (a + i)) := fun n l => by
    induction l with
    | nil => exact .nil
    | cons i l ih => exact .cons (.int _) ih
  exact key 0 _
theorem lrng1_ok {a : Expr} {x : Ex} {p p2 pos pos2 : Pos} (ok : Ok X Δ Γ) (hg : Gl X "list") (hb : Δ.bl.contains "list" = true) (hg2 : Gl X "range") (hb2 : Δ.bl.contains "range" = true) (ha : PE X a (xE Γ X.K x)) (st : noStar a = true) :
    PE X (.Call (.Name "list" p) [.Call (.Name "range" p2) [a] [] pos2] [] pos) (xE Γ X.K (.op .lrng1 [x])) := by
  refine PEi (pe_listRg ok.calm hg (ok.bl _ hb) (prg_1 hg2 (ok.bl _ hb2) ha (star1 st)) rfl) fun σ H Q q => ?_
  refine xE.mono (x_op1 q) fun v H1 ⟨d, z, r, e, m⟩ => ?_
  change lrng1D [d] = some z at e
  unfold lrng1D at e
  split at e
  · rename_i b heq
    cases heq
    split at e
    · rename_i hk
      cases e
      simp only [Bool.and_eq_true, decide_eq_true_eq] at hk
      exact ⟨b, r.int, rng_ok hk.1 (by rw [Int.sub_zero]; exact hk.2), fun c hc => m _ _ (.list hc (rgV_rts 0 b))⟩
    · cases e
  · cases e
theorem lrng2_ok {a b : Expr} {x y : Ex} {p p2 pos pos2 : Pos} (ok : Ok X Δ Γ) (hg : Gl X "list") (hb : Δ.bl.contains "list" = true) (hg2 : Gl X "range") (hb2 : Δ.bl.contains "range" = true) (ha : PE X a (xE Γ X.K x)) (hb' : PE X b (xE Γ X.K y)) (st : noStar a = true) (st2 : noStar b = true) :
    PE X (.Call (.Name "list" p) [.Call (.Name "range" p2) [a, b] [] pos2] [] pos) (xE Γ X.K (.op .lrng2 [x, y])) := by
  refine PEi (pe_listRg ok.calm hg (ok.bl _ hb) (prg_2 hg2 (ok.bl _ hb2) ha hb' (star1 st) (star1 st2) (starAny fun e he => by rw [List.mem_singleton.mp he]; exact st2)) rfl) fun σ H Q q => ?_
  refine xE.mono (x_op2 q) fun v H1 h => h.mono fun u H2 ⟨d, e2, z, r, r2, e, m⟩ => ?_
  change lrng2D [d, e2] = some z at e
  unfold lrng2D at e
  split at e
  · rename_i a' b' heq
    cases heq
    split at e
    · rename_i hk
      cases e
      simp only [Bool.and_eq_true, decide_eq_true_eq] at hk
      exact ⟨a', b', r.int, r2.int, rng_ok hk.1 hk.2, fun c hc => m _ _ (.list hc (rgV_rts a' b'))⟩
    · cases e
  · cases e
/-- tuple(range(..)) -/
def tTupF (te : L2.St → Hp → (Int → Int → Hp → Prop) → Prop) : TE := fun σ H Q => te σ H fun a b H1 => RgOk a b ∧ ∀ q (o : Obj), H1 q = none → o.dict = none → Q (.ref q) (upd H1 q (.frz o (.tup (rgV a b))))
theorem pe_tupRF {e : Expr} {te : L2.St → Hp → (Int → Int → Hp → Prop) → Prop} {p pos : Pos} (hc : X.calm = true) (hg : Gl X "tuple") (hm : X.mg "tuple" = none) (he : PRg X e te) (na : starEach [e] X.env = [(false, eval e X.env)]) : PE X (.Call (.Name "tuple" p) [e] [] pos) (tTupF te) := by
  refine ⟨fun pins s σ H Q I h => Call_ (ld_blt I hg hm bt_tuple (PyProof.Rows.callWith_type1 (args_cons (thn (he pins s σ H _ I h) fun x s1 ⟨r, a, b, t, u, v, H1, ex, hr, I1, ok, q⟩ => args_nil ?_) na) na))⟩
  subst ex
  have ok' := ok
  obtain ⟨b1, b2, b3, b4, b5⟩ := ok'
  refine call_tuple_range (n := (b - a).toNat) (I1.ok.hd hc) hr (small_one b1 b2 b3 b4) (rangeSize_nat a b) b5 fun h1 tk acc hk hi => ?_
  have I2 : Inv X pins σ H1 { s1 with heap := h1, toks := tk } := I1.kept hk
  have hgt := Heap.get?_push_size h1 (o := { cls := .type "tuple", data := .seq acc }) rfl
  refine ⟨.ref h1.objs.size, upd H1 h1.objs.size (.frz { cls := .type "tuple", data := .seq acc } (.tup (rgV a b))), I2.laid (t' := tk) (fun c o e => Heap.get?_push_of_some _ e) (Nat.le_refl _) ⟨hgt, ?_, acc.toList, vals_rg hi, ?_⟩, rfl, q _ _ (I2.hok.fresh (Nat.le_refl _)) rfl⟩
  · rw [rgV_length, sizeLine_eq]; omega
  · rw [Array.toArray_toList]; exact ⟨_, hgt, rfl, 0, rfl⟩
theorem trng1_ok {a : Expr} {x : Ex} {p p2 pos pos2 : Pos} (ok : Ok X Δ Γ) (hg : Gl X "tuple") (hb : Δ.bl.contains "tuple" = true) (hg2 : Gl X "range") (hb2 : Δ.bl.contains "range" = true) (ha : PE X a (xE Γ X.K x)) (st : noStar a = true) :
    PE X (.Call (.Name "tuple" p) [.Call (.Name "range" p2) [a] [] pos2] [] pos) (xE Γ X.K (.op .trng1 [x])) := by
  refine PEi (pe_tupRF ok.calm hg (ok.bl _ hb) (prg_1 hg2 (ok.bl _ hb2) ha (star1 st)) rfl) fun σ H Q q => ?_
  refine xE.mono (x_op1 q) fun v H1 ⟨d, z, r, e, m⟩ => ?_
  change trng1D [d] = some z at e
  unfold trng1D at e
  split at e
  · rename_i b heq
    cases heq
    split at e
    · rename_i hk
      cases e
      simp only [Bool.and_eq_true, decide_eq_true_eq] at hk
      exact ⟨b, r.int, rng_ok hk.1 (by rw [Int.sub_zero]; exact hk.2), fun c o hc ho => m _ _ (.tup hc ho (rgV_rts 0 b))⟩
    · cases e
  · cases e
theorem trng2_ok {a b : Expr} {x y : Ex} {p p2 pos pos2 : Pos} (ok : Ok X Δ Γ) (hg : Gl X "tuple") (hb : Δ.bl.contains "tuple" = true) (hg2 : Gl X "range") (hb2 : Δ.bl.contains "range" = true) (ha : PE X a (xE Γ X.K x)) (hb' : PE X b (xE Γ X.K y)) (st : noStar a = true) (st2 : noStar b = true) :
    PE X (.Call (.Name "tuple" p) [.Call (.Name "range" p2) [a, b] [] pos2] [] pos) (xE Γ X.K (.op .trng2 [x, y])) := by
  refine PEi (pe_tupRF ok.calm hg (ok.bl _ hb) (prg_2 hg2 (ok.bl _ hb2) ha hb' (star1 st) (star1 st2) (starAny fun e he => by rw [List.mem_singleton.mp he]; exact st2)) rfl) fun σ H Q q => ?_
  refine xE.mono (x_op2 q) fun v H1 h => h.mono fun u H2 ⟨d, e2, z, r, r2, e, m⟩ => ?_
  change trng2D [d, e2] = some z at e
  unfold trng2D at e
  split at e
  · rename_i a' b' heq
    cases heq
    split at e
    · rename_i hk
      cases e
      simp only [Bool.and_eq_true, decide_eq_true_eq] at hk
      exact ⟨a', b', r.int, r2.int, rng_ok hk.1 hk.2, fun c o hc ho => m _ _ (.tup hc ho (rgV_rts a' b'))⟩
    · cases e
  · cases e
/-- what is walked -/
theorem iter_ok {f : Expr → Option Ex} {sc : Scope} {tg iter : Expr} {k : Nat} {src : List Ex} (ok : Ok X Δ Γ) (hs : X.env.scope = sc) (ih : ∀ e x, f e = some x → Good X Γ e x) (st : ∀ e x, f e = some x → noStar e = true) (h : iterS Δ sc f (isTupE tg) iter = some (k, src)) :
    PI X tg iter (xI Γ X.K k src) := by
  have dflt : ∀ {e : Expr}, (f e).map (fun a => (0, [a])) = some (k, src) → PI X tg e (xI Γ X.K k src) := fun {e} h => by
    cases e1 : f e with
    | none => rw [e1] at h; cases h
    | some x => rw [e1] at h; cases h; exact pi_seq (ih e x e1).1
  have arg1 : ∀ {a : Expr} {x : Ex}, f a = some x → PA X [a] (xL Γ X.K [x]) := fun {a x} e => PAi (pa_cons (ih a x e).1 pa_nil (star1 (st a x e))) fun _ _ _ q => xL_one q
  have arg2 : ∀ {a b : Expr} {x y : Ex}, f a = some x → f b = some y → PA X [a, b] (xL Γ X.K [x, y]) := fun {a b x y} e e2 => PAi (pa_cons (ih a x e).1 (pa_cons (ih b y e2).1 pa_nil (star1 (st b y e2))) (star1 (st a x e))) fun _ _ _ q => xL_two q
  have any1 : ∀ {b : Expr} {y : Ex} {pos : Pos}, f b = some y → (backTo pos (starEach [b] X.env)).any (·.1) = false := fun {b y pos} e => starAny fun e' he => by rw [List.mem_singleton.mp he]; exact st b y e
  unfold iterS at h
  split at h
  · rename_i x p es pos
    split at h
    · rename_i hc
      simp only [Bool.and_eq_true, decide_eq_true_eq] at hc
      obtain ⟨⟨⟨hg, _⟩, hb⟩, rfl⟩ := hc
      split at h
      · rename_i a
        cases e1 : f a with
        | none => rw [e1] at h; cases h
        | some x => rw [e1] at h; cases h; exact pi_range1 (glB_of hs hg) (ok.bl _ hb) (arg1 e1) (star1 (st a _ e1))
      · rename_i a b
        split at h
        · rename_i x y e1 e2
          cases h
          exact pi_range2 (glB_of hs hg) (ok.bl _ hb) (arg2 e1 e2) (by rw [star1 (st a _ e1), star1 (st b _ e2)]; rfl) (star1 (st b _ e2))
        · cases h
      · cases h
    split at h
    · rename_i hc
      simp only [Bool.and_eq_true, decide_eq_true_eq] at hc
      obtain ⟨⟨⟨⟨hg, _⟩, hb⟩, ht⟩, rfl⟩ := hc
      cases tg <;> first | cases ht | skip
      split at h
      · rename_i a
        cases e1 : f a with
        | none => rw [e1] at h; cases h
        | some x => rw [e1] at h; cases h; exact pi_enumG (glB_of hs hg) (ok.bl _ hb) (arg1 e1) (star1 (st a _ e1))
      · cases h
    split at h
    · rename_i hc
      simp only [Bool.and_eq_true, decide_eq_true_eq] at hc
      obtain ⟨⟨⟨⟨hg, _⟩, hb⟩, ht⟩, rfl⟩ := hc
      cases tg <;> first | cases ht | skip
      split at h
      · rename_i a b
        split at h
        · rename_i x y e1 e2
          cases h
          exact pi_zipG (glB_of hs hg) (ok.bl _ hb) (arg2 e1 e2) (star1 (st a _ e1)) (any1 e2)
        · cases h
      · cases h
    exact dflt h
  · cases h
  · exact dflt h
theorem call_ok {f : Str} {args : List Expr} {k : Nat} {xs : List Ex} {p pos : Pos} (ok : Ok X Δ Γ) (hg : Gl X f) (hk : okNm f = true) (hf : ixOf f Δ.fs = some k) (ha : PA X args (xL Γ X.K xs)) (st : ∀ e ∈ args, noStar e = true) (hz : args = [] → xs = []) : PE X (.Call (.Name f p) args [] pos) (xE Γ X.K (.call k xs)) := by
  obtain ⟨c, hc, ⟨l⟩⟩ := ok.fs k f (ixOf_get hf)
  obtain ⟨hd, _, _⟩ := okNm_of hk
  cases args with
  | nil =>
    have e := hz rfl
    subst e
    refine PEi (pe_call0 (E := fun _ _ _ => False) l.fn l.room hg l.glob l.kp l.bi .nil passN hd) fun σ H Q q => ?_
    obtain ⟨c', h1, h2⟩ := xL_nil (x_call (E := fun _ _ _ => False) q)
    rw [hc] at h1
    cases h1
    exact h2
  | cons a as =>
    refine PEi (pe_call (E := fun _ _ _ => False) l.fn l.room hg l.glob l.kp l.bi .nil passN ha hd (star1 (st a List.mem_cons_self)) (starAny fun e he => st e (List.mem_cons_of_mem _ he))) fun σ H Q q => ?_
    have := x_call (E := fun _ _ _ => False) q
    obtain ⟨β, q', ρ, F, rs, ρ', pr, e, kk⟩ := this
    refine ⟨β, q', ρ, F, rs, ρ', pr, e, fun vs H' F' G h => ?_⟩
    obtain ⟨c', h1, h2⟩ := kk vs H' F' G h
    rw [hc] at h1
    cases h1
    rw [List.append_nil]
    exact h2
end
end PF

set_option Elab.async false
set_option linter.all false
set_option maxRecDepth 100000
/-! PF20: every expression of the text that is read answers as the interpreter says -/
namespace PF
open PySem PySem.Spec PyProof.Rows L2
section
variable {X : Cx} {Δ : Ctx} {Γ : List CT}
/-! ### slices -/
theorem sl_parts {K : PySem.W.Frag} {σ : L2.St} {H : Hp} {lo hi : Bool} {xs : List Ex} {Q : VK} (h : xE Γ K (.op (.slice lo hi) xs) σ H Q) : xL Γ K xs σ H fun vs H1 => ∃ ds z, Rds K H1 vs ds ∧ sliceD lo hi ds = some z ∧ Meet K H1 z Q := x_op h
theorem sl00 {a : Expr} {x : Ex} {p2 pos : Pos} (ha : PE X a (xE Γ X.K x)) : PE X (.Subscript a (.Slice none none none p2) pos) (xE Γ X.K (.op (.slice false false) [x])) :=
  PEi (pe_slice slR ha po_none po_none) fun σ H Q q => xE.mono (xL_one (sl_parts q)) fun v H1 ⟨ds, z, r, e, m⟩ => by
    cases r with
    | cons r1 t => cases t; exact s_slice e r1 m
theorem sl10 {a l : Expr} {x y : Ex} {p2 pos : Pos} (ha : PE X a (xE Γ X.K x)) (hl : PE X l (xE Γ X.K y)) : PE X (.Subscript a (.Slice (some l) none none p2) pos) (xE Γ X.K (.op (.slice true false) [x, y])) :=
  PEi (pe_slice slR ha (po_some hl) po_none) fun σ H Q q => xE.mono (xL_two (sl_parts q)) fun v H1 h => h.mono fun u H2 ⟨ds, z, r, e, m⟩ => by
    cases r with
    | cons r1 t =>
      cases t with
      | cons r2 t =>
        cases t
        unfold sliceD at e
        split at e
        · rename_i heq; cases heq
        · rename_i h1 _ heq
          cases heq
          exact ⟨_, r2.int, s_slice e r1 m⟩
        · rename_i h1 _ heq; cases h1
        · rename_i heq; cases heq
        · cases e
theorem sl01 {a l : Expr} {x y : Ex} {p2 pos : Pos} (ha : PE X a (xE Γ X.K x)) (hl : PE X l (xE Γ X.K y)) : PE X (.Subscript a (.Slice none (some l) none p2) pos) (xE Γ X.K (.op (.slice false true) [x, y])) :=
  PEi (pe_slice slR ha po_none (po_some hl)) fun σ H Q q => xE.mono (xL_two (sl_parts q)) fun v H1 h => h.mono fun u H2 ⟨ds, z, r, e, m⟩ => by
    cases r with
    | cons r1 t =>
      cases t with
      | cons r2 t =>
        cases t
        unfold sliceD at e
        split at e
        · rename_i heq; cases heq
        · rename_i h1 _ heq; cases h1
        · rename_i h1 _ heq
          cases heq
          exact ⟨_, r2.int, s_slice e r1 m⟩
        · rename_i heq; cases heq
        · cases e
theorem xL_three {K : PySem.W.Frag} {σ : L2.St} {H : Hp} {x y z : Ex} {Q : List V → Hp → Prop} (h : xL Γ K [x, y, z] σ H Q) : xE Γ K x σ H fun v H1 => xE Γ K y σ H1 fun u H2 => xE Γ K z σ H2 fun w H3 => Q [v, u, w] H3 :=
  (xL_cons h).mono fun _ _ h => xL_two h
theorem x_slc {K : PySem.W.Frag} {σ : L2.St} {H : Hp} {a l h : Ex} {Q : VK} (hh : xE Γ K (.slc a l h) σ H Q) : xE Γ K a σ H fun x H1 => xE Γ K l σ H1 fun y H2 => ∃ i, y = .int i ∧ xE Γ K h σ H2 fun w H3 => ∃ j, w = .int j ∧ ∃ d z, Rd K H3 x d ∧ sliceV d (some i) (some j) = some z ∧ Meet K H3 z Q := by
  obtain ⟨β, q, ρ, F, x0, ρ', p, e, k⟩ := hh
  simp only [ev] at e
  split at e
  · rename_i r ρ1 e1
    split at e
    · rename_i r2 ρ2 e2
      split at e
      · rename_i i e3
        split at e
        · rename_i r3 ρ3 e4
          split at e
          · rename_i d j e5 e6
            cases e7 : sliceV d (some i) (some j) with
            | none => rw [e7] at e; cases e
            | some z =>
              rw [e7] at e; cases e
              refine ⟨β, q, ρ, F, r, ρ1, p, e1, fun vx H1 F1 G1 h1 => ⟨β, q || lent r, ρ1, F1, r2, ρ2, h1.pre p.nb, e2, fun vy H2 F2 G2 h2 => ⟨i, (h2.rr.rd h2.eo e3).int, ?_⟩⟩⟩
              have p2 := h1.pre p.nb
              refine ⟨β, q || lent r, ρ2, F2, r3, ρ', h2.preS p2.nb, e4, fun vw H3 F3 G3 h3 => ⟨j, (h3.rr.rd h3.eo e6).int, d, z, ?_, e7, fun v5 H5 n5 => ?_⟩⟩
              · have h4 := h2.then_ h3
                exact (h1.rr.behind h1.nd h1.eo.mt h4.st).rd h4.eo e5
              · have h4 := h2.then_ h3
                have h5 : PstL K β (q || lent r) σ ρ1 H1 F1 [r3] ρ' [vw] H3 F3 (G3 ++ []) := ⟨h4.eo, .cons h4.rr .nil, by rw [List.append_nil]; exact h4.nd, by rw [List.append_nil]; exact h4.st, by rw [List.append_nil]; exact h4.nq, h4.le⟩
                obtain ⟨G', h6⟩ := (PstL.cons h1 h5).new n5
                exact k _ _ _ _ h6
          · cases e
        · cases e
      · cases e
    · cases e
  · cases e
theorem sl11 {a l u : Expr} {x y z : Ex} {p2 pos : Pos} (ha : PE X a (xE Γ X.K x)) (hl : PE X l (xE Γ X.K y)) (hu : PE X u (xE Γ X.K z)) : PE X (.Subscript a (.Slice (some l) (some u) none p2) pos) (xE Γ X.K (.slc x y z)) :=
  PEi (pe_slice slR ha (po_some hl) (po_some hu)) fun σ H Q q => (x_slc q).mono fun v H1 h => h.mono fun u H2 ⟨i, e, h⟩ => ⟨i, e, h.mono fun w H3 ⟨j, e, d, zz, r, ez, m⟩ => ⟨j, e, s_slice ez r m⟩⟩

theorem pt_ifx {c a b : Expr} {tA ta tb : TT} {pos : Pos} (hc : PT X c tA) (ha : PT X a ta) (hb : PT X b tb) : PT X (.IfExp c a b pos) (fun σ H Q => tA σ H fun k H1 => if k = true then ta σ H1 Q else tb σ H1 Q) := by
  refine ⟨fun pins s σ H Q I h => ?_⟩
  show wpAny _ X.A (do if ← isTrue c X.env (eval c X.env) then isTrue a X.env (eval a X.env) else isTrue b X.env (eval b X.env)) _ _ s
  refine wpAny_bind (thn (hc.run pins s σ H _ I h) fun k s1 ⟨H1, I1, q1⟩ => ?_)
  cases k with
  | true => exact ha.run pins s1 σ H1 Q I1 q1
  | false => exact hb.run pins s1 σ H1 Q I1 q1
theorem slots_own {Δ : Ctx} {sc : Scope} {e : Expr} {t : Tg} {own : List (Str × Nat)} (h : tgS Δ sc e = some (t, own)) : own.map (·.2) = t.own := by
  unfold tgS at h
  split at h
  · rename_i x p
    cases e1 : slotS Δ sc (.Name x p) with
    | none => rw [e1] at h; cases h
    | some y => rw [e1] at h; cases h; rfl
  · rename_i es k p
    cases e1 : slotsS Δ sc es with
    | none => rw [e1] at h; cases h
    | some l => rw [e1] at h; cases h; rfl
  · cases h
/-! ### the whole -/
theorem strip_ok (Δ : Ctx) (Γ : List CT) : ∀ (n : Nat) (sc : Scope) (X : Cx), Ok X Δ Γ → X.env.scope = sc → ∀ (e : Expr) (x : Ex), strip Δ n sc e = some x → Good X Γ e x := by
  intro n
  induction n with
  | zero => intro sc X ok hs e x h; cases h
  | succ n ih0 =>
    intro sc X ok hs e x h
    have ih := fun e x => ih0 sc X ok hs e x
    have st : ∀ e x, strip Δ n sc e = some x → noStar e = true := fun e x h => strip_star h
    simp only [strip] at h
    split at h
    · -- a constant
      rename_i c j pos
      refine good_val ?_ fun _ => rfl
      unfold cstS at h
      split at h
      · cases h; exact PEi pe_non fun _ _ _ q => x_cst q .non
      · cases h; exact PEi pe_bl fun _ _ _ q => x_cst q (.bl _)
      · cases h; exact PEi pe_int fun _ _ _ q => x_cst q (.int _)
      · cases h; exact PEi pe_str fun _ _ _ q => x_cst q (.str _)
      · cases h
    · -- a name
      rename_i y p
      refine good_val ?_ fun _ => rfl
      split at h
      · cases h
      · rename_i hk
        have hk : okNm y = true := by simpa using hk
        obtain ⟨hd, hcd, hn⟩ := okNm_of hk
        split at h
        · rename_i hv
          cases e1 : ixOf y Δ.N with
          | none => rw [e1] at h; cases h
          | some i =>
            rw [e1] at h; cases h
            exact PEi (pe_var (i := i) (by rw [ok.N]; exact ixOf_get e1) (by rw [hs]; exact visB_of hv) hd hcd) fun _ _ _ q => x_nm q
        · split at h
          · rename_i hg
            cases e1 : Δ.gs.lookup y with
            | none => rw [e1] at h; cases h
            | some t =>
              rw [e1] at h; cases h
              obtain ⟨u, v, h1, h2, h3⟩ := ok.gs y t e1
              exact PEi (pe_glob (glB_of hs hg) h1 h2 hd) fun _ H _ q => x_cst q (h3 H)
          · cases h
    · -- a op b
      rename_i a op b pos
      refine good_val ?_ fun _ => rfl
      split at h
      · rename_i o x y e1 e2 e3
        cases h
        exact PEi (pe_op (bin_ok e1) (ih a x e2).1 (ih b y e3).1) fun _ _ _ q => x_op2 q
      · cases h
    · -- not a
      rename_i a pos
      cases e1 : strip Δ n sc a with
      | none => rw [e1] at h; cases h
      | some x =>
        rw [e1] at h; cases h
        exact ⟨PEi (pe_notT (ih a x e1).1) fun _ _ _ q => x_not q, PTi (pt_not (ih a x e1).2) fun _ _ _ q => t_not q⟩
    · -- - a
      rename_i a pos
      refine good_val ?_ fun _ => rfl
      cases e1 : strip Δ n sc a with
      | none => rw [e1] at h; cases h
      | some x =>
        rw [e1] at h; cases h
        exact PEi (pe_un un_neg (ih a x e1).1) fun _ _ _ q => xE.mono (x_op1 q) fun v H1 ⟨d, z, r, e, m⟩ => s_neg e r m
    · -- and, or
      rename_i op vs pos
      cases e1 : optL (strip Δ n sc) vs with
      | none => rw [e1] at h; cases h
      | some xs =>
        rw [e1] at h
        have g := bool_ok (op := op) (pos := pos) ih e1 h
        exact ⟨g.1, g.2.pt⟩
    · -- a op b
      rename_i a op b pos
      split at h
      · cases h
      · rename_i hm
        have hm : behindInMarks op b = false := by simpa using hm
        split at h
        · rename_i x y e2 e3
          cases h
          have g : PE X (.Compare a [op] [b] pos) (xE Γ X.K (.op (cmpO op) [x, y])) := PEi (pe_cmpR (cmp_ok ok.un) (ih a x e2).1 (ih b y e3).1 hm) fun _ _ _ q => x_op2 q
          refine ⟨g, PTi (pt_cmpR (cmp_ok ok.un) (ih a x e2).1 (ih b y e3).1 hm) fun σ H Q q => ?_⟩
          exact x_op2 (t_bl (fun _ _ _ _ e => ev_cmp e) q)
        · cases h
    · -- a op b op c
      rename_i a o1 o2 b c pos
      split at h
      · cases h
      · rename_i hm
        have hm : lastMarks [o1, o2] [b, c] = false := by simpa using hm
        split at h
        · rename_i x y z e2 e3 e4
          cases h
          have key : ∀ σ H Q, xE Γ X.K (.chain (cmpO o1) (cmpO o2) x y z) σ H Q → tChain (fun x y H Q => ∃ d e z, Rd X.K H x d ∧ Rd X.K H y e ∧ opD (cmpO o1) [d, e] = some z ∧ Meet X.K H z Q) (fun x y H Q => ∃ d e z, Rd X.K H x d ∧ Rd X.K H y e ∧ opD (cmpO o2) [d, e] = some z ∧ Meet X.K H z Q) (xE Γ X.K x) (xE Γ X.K y) (xE Γ X.K z) σ H Q := fun σ H Q q =>
            (x_chain q).mono fun vx H1 h => h.mono fun vy H2 ⟨A, B', k, hx, hy, e, m⟩ => ⟨_, _, _, hx, hy, e, fun v H3 nv => by
              obtain ⟨e5, h6⟩ := m v H3 nv
              refine ⟨k, e5, ?_⟩
              cases k with
              | true => exact ite_tt ((show xE Γ X.K z σ H3 _ from h6).mono fun w H4 ⟨Z, zz, r1, r2, e7, m7⟩ => ⟨_, _, zz, r1, r2, e7, m7⟩)
              | false => exact ite_ff h6⟩
          refine ⟨PEi (pe_chain (cmp_ok ok.un) (cmp_ok ok.un) (ih a x e2).1 (ih b y e3).1 (ih c z e4).1 hm) key, PTi (pt_chain (cmp_ok ok.un) (cmp_ok ok.un) (ih a x e2).1 (ih b y e3).1 (ih c z e4).1 hm) fun σ H Q q => ?_⟩
          exact key σ H _ (t_bl (fun _ _ _ _ e => ev_chain e) q)
        · cases h
    · -- a if c else b
      rename_i c a b pos
      split at h
      · rename_i x y z e2 e3 e4
        cases h
        exact ⟨PEi (pe_ifExp (ih c x e2).2 (ih a y e3).1 (ih b z e4).1) fun _ _ _ q => x_ifx q, PTi (pt_ifx (ih c x e2).2 (ih a y e3).2 (ih b z e4).2) fun _ _ _ q => t_ifx q⟩
      · cases h
    · -- a tuple
      rename_i es k pos
      refine good_val ?_ fun _ => rfl
      cases e1 : optL (strip Δ n sc) es with
      | none => rw [e1] at h; cases h
      | some xs => rw [e1] at h; cases h; exact PEi (pe_tupF (pa_ok ih st e1)) fun _ _ _ q => x_tup q
    · -- a list
      rename_i es pos
      refine good_val ?_ fun _ => rfl
      cases e1 : optL (strip Δ n sc) es with
      | none => rw [e1] at h; cases h
      | some xs => rw [e1] at h; cases h; exact PEi (pe_lst (pa_ok ih st e1)) fun _ _ _ q => x_lst q
    · rename_i a p2 pos
      refine good_val ?_ fun _ => rfl
      cases e1 : strip Δ n sc a with
      | none => rw [e1] at h; cases h
      | some x => rw [e1] at h; cases h; exact sl00 (ih a x e1).1
    · rename_i a l p2 pos
      refine good_val ?_ fun _ => rfl
      split at h
      · rename_i x y e1 e2; cases h; exact sl10 (ih a x e1).1 (ih l y e2).1
      · cases h
    · rename_i a l p2 pos
      refine good_val ?_ fun _ => rfl
      split at h
      · rename_i x y e1 e2; cases h; exact sl01 (ih a x e1).1 (ih l y e2).1
      · cases h
    · rename_i a l u p2 pos
      refine good_val ?_ fun _ => rfl
      split at h
      · rename_i x y z e1 e2 e3; cases h; exact sl11 (ih a x e1).1 (ih l y e2).1 (ih u z e3).1
      · cases h
    · cases h
    · -- a[b]
      rename_i a b pos n1 n2 n3 n4 n5
      refine good_val ?_ fun _ => rfl
      split at h
      · rename_i x y e1 e2
        cases h
        exact PEi (pe_ix ix_seq (ih a x e1).1 (ih b y e2).1 (plainIx fun l u p e => n5 l u none p e)) fun _ _ _ q => x_idx q
      · cases h
    · -- a comprehension
      rename_i elt tg iter ifs scope pos
      refine good_val ?_ fun _ => rfl
      split at h
      · rename_i t own e1
        split at h
        · rename_i hb
          simp only [Bool.and_eq_true, decide_eq_true_eq] at hb
          split at h
          · rename_i k src cs x e2 e3 e4
            cases h
            have bo : BlkOk X.N X.env.scope scope own := blkOk_by (by rw [ok.N, hs]; exact hb.1)
            have hloc : ∀ x, locB scope x = true → Loc (relS scope X.env.scope) x := fun x hx => by
              rcases locB_of hx with z | z
              · exact .inl (lookup_relS_keep (by decide) z)
              · exact .inr (lookup_relS_keep (by decide) z)
            have hfn : ∀ x, locB scope x = true → ((scope.names.lookup x == some NameKind.cell) = true ∨ (relS scope X.env.scope).names.lookup x = some .local) := fun x hx => by
              rcases locB_of hx with z | z
              · exact .inr (lookup_relS_keep (by decide) z)
              · refine .inl ?_; rw [z]; rfl
            have sub := fun (s : Shared) (H : Hp) (C : Addr) (cl : List (Str × Addr)) (fp : List Addr) => ih0 (relS scope sc) (X.blk s H scope (compEnvC scope cl C X.env) fp) (ok.blk s H scope _ fp) (by rw [← hs]; rfl)
            refine PEi (pe_lc (g := gT X.K t) (tt := tT Γ X.K cs) (te := xE Γ X.K x) ok.calm ok.nd (iter_ok ok hs ih st e2) bo (fun s H C cl fp => ?_) (fun s H C cl fp => ?_) (fun s H C cl fp => (sub s H C cl fp elt x e4).1) (noSet e2 X.env)) fun σ H Q q => ?_
            · exact (tg_pg (X := X.blk s H scope (compEnvC scope cl C X.env) fp) ok.calm ok.N ok.nd e1 hloc hfn).1
            · cases ifs with
              | nil => cases e3; exact pts_nil
              | cons c r =>
                cases r with
                | cons _ _ => simp at hb
                | nil =>
                  simp only [optL] at e3
                  split at e3
                  · rename_i y ys h1 h2
                    cases h2
                    cases e3
                    exact pts_one (sub s H C cl fp c y h1).2
                  · cases e3
            · rw [slots_own e1]
              exact x_comp q
          · cases h
        · cases h
      · cases h
    · -- a call
      rename_i f p args pos
      refine good_val ?_ fun _ => rfl
      split at h
      · cases h
      · rename_i hgk
        have hgk : glB sc f = true ∧ okNm f = true := by simpa using hgk
        have hg := glB_of hs hgk.1
        split at h
        · rename_i k e1
          cases e2 : optL (strip Δ n sc) args with
          | none => rw [e2] at h; cases h
          | some xs =>
            rw [e2] at h; cases h
            exact call_ok ok hg hgk.2 e1 (pa_ok ih st e2) (all_star st e2) fun e => by subst e; cases e2; rfl
        · split at h
          · cases h
          · rename_i hb
            have hb : Δ.bl.contains f = true := by simpa using hb
            split at h
            · rename_i g p2 rs pos2
              split at h
              · rename_i hc
                obtain ⟨rfl, rfl, hg2, hb2⟩ := hc
                split at h
                · rename_i a
                  cases e2 : strip Δ n sc a with
                  | none => rw [e2] at h; cases h
                  | some x => rw [e2] at h; cases h; exact lrng1_ok ok hg hb (glB_of hs hg2) hb2 (ih a x e2).1 (st a x e2)
                · rename_i a b
                  split at h
                  · rename_i x y e2 e3
                    cases h
                    exact lrng2_ok ok hg hb (glB_of hs hg2) hb2 (ih a x e2).1 (ih b y e3).1 (st a x e2) (st b y e3)
                  · cases h
                · cases h
              split at h
              · rename_i hc
                obtain ⟨rfl, rfl, hg2, hb2⟩ := hc
                split at h
                · rename_i a
                  cases e2 : strip Δ n sc a with
                  | none => rw [e2] at h; cases h
                  | some x => rw [e2] at h; cases h; exact trng1_ok ok hg hb (glB_of hs hg2) hb2 (ih a x e2).1 (st a x e2)
                · rename_i a b
                  split at h
                  · rename_i x y e2 e3
                    cases h
                    exact trng2_ok ok hg hb (glB_of hs hg2) hb2 (ih a x e2).1 (ih b y e3).1 (st a x e2) (st b y e3)
                  · cases h
                · cases h
              · split at h
                · rename_i o x e2 e3
                  cases h
                  exact blt1_ok e2 ok hg hb hgk.2 (ih _ x e3).1 (st _ x e3)
                · cases h
            · rename_i a _
              split at h
              · rename_i o x e2 e3
                cases h
                exact blt1_ok e2 ok hg hb hgk.2 (ih _ x e3).1 (st _ x e3)
              · cases h
            · rename_i a b
              split at h
              · rename_i hf
                split at h
                · rename_i t p2
                  split at h
                  · rename_i hc
                    simp only [Bool.and_eq_true] at hc
                    split at h
                    · rename_i x nm e2 e3
                      cases h
                      exact isi_ok hf e3 ok hg hb (glB_of hs hc.1.1) hc.2 hc.1.2 (ih a x e2).1 (st a x e2)
                    · cases h
                  · cases h
                · cases h
              · split at h
                · rename_i o x y e2 e3 e4
                  cases h
                  exact blt2_ok e2 ok hg hb hgk.2 (ih a x e3).1 (ih b y e4).1 (st a x e3) (st b y e4)
                · cases h
            · cases h
    · -- a method's call
      rename_i o m apos a cpos
      refine good_val ?_ fun _ => rfl
      split at h
      · cases h
      · rename_i hc
        have hc : (apos.endLine == cpos.line) = true ∧ plainRecv o = true := by simpa using hc
        split at h
        · rename_i k x y e1 e2 e3
          cases h
          rcases ite_cases e1 with ⟨e, h⟩ | ⟨_, h⟩
          · subst e
            cases h
            exact PEi (pe_mF (mf_index ok.un) (ih o x e2).1 (ih a y e3).1 (attrBase hc.2) hc.1 (star1 (st a y e3))) fun σ H Q q =>
              (x_mth q).mono fun v H1 ⟨T', ty, h⟩ => ⟨T', ty, h.mono fun w H2 ⟨d, k, z, td, r1, r2, ez, mm⟩ => ⟨w, d, k, z, rfl, td, r1, r2, ez, mm⟩⟩
          · rcases ite_cases h with ⟨e, h⟩ | ⟨_, h⟩
            · subst e
              cases h
              exact PEi (pe_mF (mf_count ok.un) (ih o x e2).1 (ih a y e3).1 (attrBase hc.2) hc.1 (star1 (st a y e3))) fun σ H Q q =>
                (x_mth q).mono fun v H1 ⟨T', ty, h⟩ => ⟨T', ty, h.mono fun w H2 ⟨d, k, z, td, r1, r2, ez, mm⟩ => ⟨w, d, k, z, rfl, td, r1, r2, ez, mm⟩⟩
            · cases h
        · cases h
    · cases h
end
end PF

set_option Elab.async false
set_option linter.all false
set_option maxRecDepth 100000
/-! PF21: statements -/
namespace PF
open PySem PySem.Spec PyProof.Rows L2
structure PstB (K : PySem.W.Frag) (β : List Bool) (σ : L2.St) (H : Hp) (F : List Addr) (is : List Nat) (ρ' : List S) (σ' : L2.St) (H' : Hp) (F' : List Addr) : Prop where
  eo : EO K H' β σ' ρ' F'
  nd : ND F'
  st : Step false H F H' F'
  bd : Bd σ σ' is
structure PstR (K : PySem.W.Frag) (β : List Bool) (σ : L2.St) (H : Hp) (F : List Addr) (is : List Nat) (d : D) (ρ' : List S) (v : V) (σ' : L2.St) (H' : Hp) (F' G : List Addr) : Prop where
  eo : EO K H' β σ' ρ' F'
  ow : OW K H' v d G
  nd : ND (F' ++ G)
  st : Step false H F H' (F' ++ G)
  bd : Bd σ σ' is
/-- what is wanted behind an end -/
def MO (D : Ends) (K : PySem.W.Frag) (β : List Bool) (σ : L2.St) (H : Hp) (F : List Addr) (is : List Nat) : Out → Prop
  | .nx ρ' => ∀ σ' H' F', PstB K β σ H F is ρ' σ' H' F' → D.nx σ' H'
  | .bk ρ' => ∀ σ' H' F', PstB K β σ H F is ρ' σ' H' F' → D.bk σ' H'
  | .ct ρ' => ∀ σ' H' F', PstB K β σ H F is ρ' σ' H' F' → D.ct σ' H'
  | .rt d ρ' => ∀ v σ' H' F' G, PstR K β σ H F is d ρ' v σ' H' F' G → D.rt v H'
def xS (Γ : List CT) (K : PySem.W.Frag) (s : St) : TS := fun D σ H => ∃ β ρ F o, Pre K β false σ ρ H F ∧ run Γ s ρ = some o ∧ MO D K β σ H F (stO s) o
def xB (Γ : List CT) (K : PySem.W.Frag) (ss : List St) : TS := fun D σ H => ∃ β ρ F o, Pre K β false σ ρ H F ∧ runs Γ ss ρ = some o ∧ MO D K β σ H F (stsO ss) o
section
variable {K : PySem.W.Frag} {H H1 H2 H' : Hp} {β : List Bool} {σ σ' σ1 σ2 : L2.St} {ρ ρ' ρ1 ρ2 : List S} {F F1 F2 A G : List Addr} {r : R} {v : V} {Γ : List CT} {is is2 : List Nat} {D : Ends} {o : Out}
theorem Bd.mono (h : Bd σ σ' is) (s : ∀ j ∈ is, j ∈ is2) : Bd σ σ' is2 := ⟨h.len, fun j hj => h.out j fun z => hj (s j z)⟩
theorem Bd.trans (h : Bd σ σ1 is) (h2 : Bd σ1 σ2 is2) : Bd σ σ2 (is ++ is2) := ⟨h2.len.trans h.len, fun j hj => by
  simp only [List.mem_append, not_or] at hj
  rw [h2.out j hj.2, h.out j hj.1]⟩
theorem PstB.then_ (h : PstB K β σ H F is ρ1 σ1 H1 F1) (h2 : PstB K β σ1 H1 F1 is2 ρ2 σ2 H2 F2) : PstB K β σ H F (is ++ is2) ρ2 σ2 H2 F2 :=
  ⟨h2.eo, h2.nd, (h.st.trans (fun a ha => ha) h2.st id).sub fun a ha => List.mem_append_right _ ha, h.bd.trans h2.bd⟩
theorem PstB.thenR {d : PF.D} (h : PstB K β σ H F is ρ1 σ1 H1 F1) (h2 : PstR K β σ1 H1 F1 is2 d ρ2 v σ2 H2 F2 G) : PstR K β σ H F (is ++ is2) d ρ2 v σ2 H2 F2 G :=
  ⟨h2.eo, h2.ow, h2.nd, (h.st.trans (fun a ha => ha) h2.st id).sub fun a ha => List.mem_append_right _ ha, h.bd.trans h2.bd⟩
theorem PstB.mono (h : PstB K β σ H F is ρ1 σ1 H1 F1) (s : ∀ j ∈ is, j ∈ is2) : PstB K β σ H F is2 ρ1 σ1 H1 F1 := ⟨h.eo, h.nd, h.st, h.bd.mono s⟩
theorem PstR.mono {d : PF.D} (h : PstR K β σ H F is d ρ1 v σ1 H1 F1 G) (s : ∀ j ∈ is, j ∈ is2) : PstR K β σ H F is2 d ρ1 v σ1 H1 F1 G := ⟨h.eo, h.ow, h.nd, h.st, h.bd.mono s⟩
theorem MO.mono (h : MO D K β σ H F is2 o) (s : ∀ j ∈ is, j ∈ is2) : MO D K β σ H F is o := by
  cases o with
  | nx ρ' => exact fun σ' H' F' p => h σ' H' F' (p.mono s)
  | bk ρ' => exact fun σ' H' F' p => h σ' H' F' (p.mono s)
  | ct ρ' => exact fun σ' H' F' p => h σ' H' F' (p.mono s)
  | rt d ρ' => exact fun v σ' H' F' G p => h v σ' H' F' G (p.mono s)
theorem MO.from_ (p : PstB K β σ H F is ρ1 σ1 H1 F1) (h : MO D K β σ H F (is ++ is2) o) : MO D K β σ1 H1 F1 is2 o := by
  cases o with
  | nx ρ' => exact fun σ' H' F' q => h σ' H' F' (p.then_ q)
  | bk ρ' => exact fun σ' H' F' q => h σ' H' F' (p.then_ q)
  | ct ρ' => exact fun σ' H' F' q => h σ' H' F' (p.then_ q)
  | rt d ρ' => exact fun v σ' H' F' G q => h v σ' H' F' G (p.thenR q)
theorem MO.ends {D2 : Ends} (h : MO D K β σ H F is o) (n : ∀ ρ', o ≠ .nx ρ') (b : D2.bk = D.bk) (c : D2.ct = D.ct) (r : D2.rt = D.rt) : MO D2 K β σ H F is o := by
  cases o with
  | nx ρ' => exact absurd rfl (n ρ')
  | bk ρ' => intro σ' H' F' p; rw [b]; exact h σ' H' F' p
  | ct ρ' => intro σ' H' F' p; rw [c]; exact h σ' H' F' p
  | rt d ρ' => intro v σ' H' F' G p; rw [r]; exact h v σ' H' F' G p
theorem PstB.pre (h : PstB K β σ H F is ρ1 σ1 H1 F1) (nb : noB β) : Pre K β false σ1 ρ1 H1 F1 := ⟨fun _ => nb, h.eo, h.nd⟩
theorem b_nil (h : xB Γ K [] D σ H) : D.nx σ H := by
  obtain ⟨β, ρ, F, o, p, e, m⟩ := h
  cases e
  exact m σ H F ⟨p.eo, p.nd, .refl, .refl _⟩
theorem b_cons {s : St} {ss : List St} (h : xB Γ K (s :: ss) D σ H) : tSeq (xS Γ K s) (xB Γ K ss) D σ H := by
  obtain ⟨β, ρ, F, o, p, e, m⟩ := h
  simp only [runs] at e
  split at e
  · rename_i ρ1 e1
    exact ⟨β, ρ, F, _, p, e1, fun σ1 H1 F1 q => ⟨β, ρ1, F1, o, q.pre (p.nb rfl), e, MO.from_ q m⟩⟩
  · rename_i hn
    exact ⟨β, ρ, F, o, p, e, MO.ends (MO.mono m fun j hj => List.mem_append_left _ hj) (fun ρ' z => hn ρ' (by rw [e, z])) rfl rfl rfl⟩
/-- an expression that is taken over -/
theorem Pre.own {e : Ex} {d : PF.D} {Q : VK} (p : Pre K β false σ ρ H F) (h : evOwn Γ e ρ = some (d, ρ1)) (k : ∀ v H1 F1 G, PstR K β σ H F [] d ρ1 v σ H1 F1 G → Q v H1) : xE Γ K e σ H Q := by
  unfold evOwn at h
  split at h
  · rename_i r ρ2 e1
    refine ⟨β, false, ρ, F, r, ρ2, p, e1, fun v H1 F1 G1 h1 => ?_⟩
    obtain ⟨F2, G2, eo, ow, nd, st, _, _⟩ := h1.own h
    exact k v H1 F2 G2 ⟨eo, ow, nd, st, .refl _⟩
  · cases h
theorem s_asg {i : Nat} {e : Ex} (h : xS Γ K (.asg i e) D σ H) : tAsg (xE Γ K e) (gName i) D σ H := by
  obtain ⟨β, ρ, F, o, p, er, m⟩ := h
  simp only [run] at er
  split at er
  · rename_i d ρ1 e1
    cases er
    refine p.own e1 fun v H1 F1 G h1 => ?_
    obtain ⟨F2, h2, h3⟩ := h1.eo.store' (i := i) h1.ow
    exact m _ _ F2 ⟨h3, h1.nd.sb h2, h1.st.sub fun a ha => h2.mem ha, Bd.set (.refl _)⟩
  · cases er
theorem s_asgT {is : List Nat} {e : Ex} (h : xS Γ K (.asgT is e) D σ H) : tAsg (xE Γ K e) (gT K (.many is)) D σ H := by
  obtain ⟨β, ρ, F, o, p, er, m⟩ := h
  simp only [run] at er
  split at er
  · rename_i d ρ1 e1
    split at er
    · rename_i ds e2
      cases e3 : putAll ρ1 is (ds.map .val) with
      | none => rw [e3] at er; cases er
      | some ρ2 =>
        rw [e3] at er
        cases er
        refine p.own e1 fun v H1 F1 G h1 => ?_
        refine g_val (tg := .many is) h1.eo h1.ow (by simp only [PF.bind, e2]; exact e3) fun σ2 F2 eo sb bd => ?_
        exact m _ _ F2 ⟨eo, h1.nd.sb sb, h1.st.sub fun a ha => sb.mem ha, bd⟩
    · cases er
  · cases er
/-- a display of values, its names stored -/
theorem s_asgD {is : List Nat} {es : List Ex} (h : xS Γ K (.asgT is (.tup es)) D σ H) : xL Γ K es σ H fun vs H1 => gNames is vs σ H1 D.nx := by
  obtain ⟨β, ρ, F, o, p, er, m⟩ := h
  simp only [run, evOwn] at er
  split at er
  · rename_i d ρ1 e1
    split at e1
    · rename_i r ρ2 e2
      simp only [ev] at e2
      split at e2
      · rename_i rs ρ3 e3
        split at e2
        · rename_i ds ρ4 e6
          split at e2
          · cases e2
            cases e1
            have hu : unpk (mkTup ds) = some ds := by
              unfold mkTup
              cases e4 : pures ds with
              | none => rfl
              | some ts => rw [pures_eq e4]; rfl
            rw [hu] at er
            simp only at er
            cases e5 : putAll ρ1 is (ds.map .val) with
            | none => rw [e5] at er; cases er
            | some ρ4 =>
              rw [e5] at er
              cases er
              refine ⟨β, false, ρ, F, rs, _, p, e3, fun vs H1 F0 G0 h0 => ?_⟩
              obtain ⟨F1, G, h1⟩ := h0.owns e6
              refine g_names h1.eo h1.ow e5 fun σ2 F2 eo sb bd => ?_
              exact m _ _ F2 ⟨eo, h1.nd.sb sb, h1.st.sub fun a ha => sb.mem ha, bd⟩
          · cases e2
        · cases e2
      · cases e2
    · cases e1
  · cases er
theorem s_ret {e : Ex} (h : xS Γ K (.ret e) D σ H) : tRet (xE Γ K e) D σ H := by
  obtain ⟨β, ρ, F, o, p, er, m⟩ := h
  simp only [run] at er
  split at er
  · rename_i d ρ1 e1
    cases er
    exact p.own e1 fun v H1 F1 G h1 => m v σ H1 F1 G h1
  · cases er
theorem s_retN (h : xS Γ K .retN D σ H) : tRetN D σ H := by
  obtain ⟨β, ρ, F, o, p, er, m⟩ := h
  cases er
  exact m .non σ H F [] ⟨p.eo, .p .non, by rw [List.append_nil]; exact p.nd, by rw [List.append_nil]; exact .refl, .refl _⟩
theorem s_brk (h : xS Γ K .brk D σ H) : tBreak D σ H := by
  obtain ⟨β, ρ, F, o, p, er, m⟩ := h
  cases er
  exact m σ H F ⟨p.eo, p.nd, .refl, .refl _⟩
theorem s_cnt (h : xS Γ K .cnt D σ H) : tCont D σ H := by
  obtain ⟨β, ρ, F, o, p, er, m⟩ := h
  cases er
  exact m σ H F ⟨p.eo, p.nd, .refl, .refl _⟩
theorem s_pass (h : xS Γ K .pass D σ H) : tNext D σ H := by
  obtain ⟨β, ρ, F, o, p, er, m⟩ := h
  cases er
  exact m σ H F ⟨p.eo, p.nd, .refl, .refl _⟩
theorem s_fail (h : xS Γ K .fail D σ H) : tNever D σ H := by
  obtain ⟨β, ρ, F, o, p, er, m⟩ := h
  cases er
theorem Pst.b {q : Bool} (h : Pst K β false σ ρ H F r ρ1 v H1 F1 G) : PstB K β σ H F is ρ1 σ H1 F1 := ⟨h.eo, h.nd.left, h.st.sub fun a ha => List.mem_append_left _ ha, .refl _⟩
theorem PstT.b (h : PstT K β false σ ρ H F ρ1 H1 F1) : PstB K β σ H F is ρ1 σ H1 F1 := ⟨h.eo, h.nd, h.st, .refl _⟩
theorem s_exp {e : Ex} (h : xS Γ K (.exp e) D σ H) : tDrop (xE Γ K e) D σ H := by
  obtain ⟨β, ρ, F, o, p, er, m⟩ := h
  simp only [run] at er
  split at er
  · rename_i r ρ1 e1
    cases er
    exact ⟨β, false, ρ, F, r, ρ1, p, e1, fun v H1 F1 G h1 => m _ _ F1 (PstT.b h1.t)⟩
  · cases er
theorem Pre.test {c : Ex} {k : Bool} {Q : Bool → Hp → Prop} (p : Pre K β false σ ρ H F) (h : evTest Γ c ρ = some (k, ρ1)) (kk : ∀ H1 F1, PstB K β σ H F [] ρ1 σ H1 F1 → Q k H1) : xT Γ K c σ H Q := by
  unfold evTest at h
  split at h
  · rename_i r ρ2 e1
    split at h
    · rename_i k' e2
      cases h
      exact ⟨β, false, ρ, F, r, ρ1, k, p, e1, e2, fun H1 F1 h1 => kk H1 F1 h1.b⟩
    · cases h
  · cases h
theorem s_ite {c : Ex} {a b : List St} (h : xS Γ K (.ite c a b) D σ H) : tIfS (xT Γ K c) (xB Γ K a) (xB Γ K b) D σ H := by
  obtain ⟨β, ρ, F, o, p, er, m⟩ := h
  simp only [run] at er
  split at er
  · rename_i ρ1 e1
    refine p.test e1 fun H1 F1 h1 => ite_tt ⟨β, ρ1, F1, o, h1.pre (p.nb rfl), er, ?_⟩
    exact MO.from_ h1 (MO.mono m fun j hj => List.mem_append_left _ (by simpa using hj))
  · rename_i ρ1 e1
    refine p.test e1 fun H1 F1 h1 => ite_ff ⟨β, ρ1, F1, o, h1.pre (p.nb rfl), er, ?_⟩
    exact MO.from_ h1 (MO.mono m fun j hj => List.mem_append_right _ (by simpa using hj))
  · cases er
end
end PF

set_option Elab.async false
set_option linter.all false
set_option maxRecDepth 100000
/-! PF22: what is written: items, append, extend, op= -/
namespace PF
open PySem PySem.Spec PyProof.Rows L2
section
variable {K : PySem.W.Frag} {H H1 H2 H' : Hp} {β : List Bool} {σ σ' σ1 σ2 : L2.St} {ρ ρ' ρ1 ρ2 : List S} {F F1 F2 A G : List Addr} {r : R} {v : V} {Γ : List CT} {is is2 : List Nat} {D : Ends} {o : Out}
theorem OWs.set {x : V} {d : PF.D} {G1 : List Addr} : ∀ {vs : List V} {ds : List PF.D} {G : List Addr} (j : Nat), OWs K H vs ds G → OW K H x d G1 → ∃ G', OWs K H (vs.set j x) (ds.set j d) G' ∧ Sb G' (G ++ G1)
  | _, _, _, _, .nil, _ => ⟨[], .nil, fun a => by simp⟩
  | _, _, _, 0, .cons h hs, o => ⟨_, .cons o hs, fun a => by simp only [ct_app]; omega⟩
  | _, _, _, j + 1, .cons h hs, o => by
    obtain ⟨G', h1, h2⟩ := OWs.set j hs o
    exact ⟨_, .cons h h1, fun a => by have := h2 a; simp only [ct_app] at *; omega⟩
theorem Fr.upd1 {p : Addr} {o : HO} : Fr H (upd H p o) [p] := fun a o' e n => by
  rw [upd_ne fun z => n (by rw [z]; exact List.mem_singleton.mpr rfl)]
  exact e
theorem nin1 {p a : Addr} {A : List Addr} (h : List.count (α := Nat) p A = 0) (ha : a ∈ A) : a ∉ [p] := fun z => by
  rw [List.mem_singleton.mp z] at ha
  exact absurd ha (List.count_eq_zero.mp h)
/-- the list of a name, changed in place -/
theorem EO.change {i : Nat} {ds ds' : List PF.D} {G0 : List Addr} (eo : EO K H β σ ρ F) (nb : noB β) (nd : ND (F ++ G0)) (m0 : MutF H G0) (e : look ρ i = .val (.l ds)) :
    ∃ p vs Gs F0, σ[i]? = some (some (.ref p)) ∧ H p = some (.lst vs) ∧ OWs K H vs ds Gs ∧ (∀ a : Nat, List.count (α := Nat) a F = List.count a (p :: Gs) + List.count a F0) ∧ EO K H β σ (put ρ i .no) F0 ∧ List.count (α := Nat) p Gs = 0 ∧ List.count (α := Nat) p G0 = 0 ∧
      ∀ (vs' : List V) (G' : List Addr), OWs K (upd H p (.lst vs')) vs' ds' G' → ∃ F', (∀ a : Nat, List.count (α := Nat) a F' = List.count a F0 + List.count a (p :: G')) ∧ EO K (upd H p (.lst vs')) β σ (put ρ i (.val (.l ds'))) F' := by
  obtain ⟨w, Gw, F0, h1, h2, h3, h4⟩ := eo.val_at e
  cases h2 with
  | @l p vs _ Gs h5 h6 =>
    have hp := nd p
    have h4p := h4 p
    simp only [ct_app, ct_cons, if_pos] at hp h4p
    refine ⟨p, vs, Gs, F0, h1, h5, h6, h4, h3, by omega, by omega, fun vs' G' o' => ?_⟩
    have eo0 : EO K (upd H p (.lst vs')) β σ (put ρ i .no) F0 := h3.fr Fr.upd1 (MutF.one h5) nb fun a ha => nin1 (by omega) ha
    obtain ⟨F', k1, k2⟩ := eo0.fill (i := i) (look_put _ _ _ (by
      have := (List.getElem?_eq_some_iff.mp h1).1
      rw [eo.len]; exact this)) h1 (.l upd_same o')
    rw [put_put] at k2
    exact ⟨F', k1, k2⟩
/-- an item of a name's list -/
theorem Step.wr {p : Addr} {o : HO} (st : Step false H F H1 A) (hp : p ∈ A) : Step false H F (upd H1 p o) A := ⟨st.nw, fun a ob e n => by
  rw [upd_ne fun z => ?_]
  · exact st.fr a ob e n
  · subst z
    rcases st.nw a hp with w | w
    · exact n w
    · rw [w] at e; cases e⟩
theorem evQ {e : Ex} {q : Bool} {r : R} {Q : VK} (eo : EO K H β σ ρ F) (nd : ND F) (h : ev Γ true e ρ = some (r, ρ1)) (k : ∀ w H1 F1 G1, Fr H H1 [] → EO K H1 β σ ρ1 F1 → RR K H1 σ r w G1 → Q w H1) : xE Γ K e σ H Q :=
  ⟨β, true, ρ, F, r, ρ1, ⟨(fun z => by cases z), eo, nd⟩, h, fun w H1 F1 G1 h1 => k w H1 F1 G1 h1.st.q0 h1.eo h1.rr⟩
theorem g_s1 {i : Nat} {ie : Ex} {d : PF.D} {Q : L2.St → Hp → Prop} (nb : noB β) (eo : EO K H β σ ρ F) (ow : OW K H v d G) (nd : ND (F ++ G)) (e : store Γ d ρ (.s1 i ie) = some ρ2)
    (k : ∀ H2 F2, EO K H2 β σ ρ2 F2 → ND F2 → Step false H (F ++ G) H2 F2 → Q σ H2) : gSub (xE Γ K (.nm i)) (xE Γ K ie) rSetL v σ H Q := by
  simp only [store] at e
  split at e
  · rename_i ri ρx e1
    split at e
    · rename_i kk ds e2 e3
      split at e
      · rename_i j e4
        cases e
        obtain ⟨w0, G00, F00, h01, h02, _⟩ := eo.val_at e3
        refine evQ (q := true) (e := .nm i) (r := .nm i) (ρ1 := ρ) eo nd.left (by simp only [ev, e3]) fun w H1 F1 G1 f1 eo1' rr1 => ?_
        have eo1 : EO K H1 β σ ρ F := eo.fr0 f1
        cases rr1 with
        | nm hi =>
          rw [h01] at hi
          cases hi
          refine evQ (q := true) eo1 nd.left e1 fun wi H2 F2 G2 f2 eo2 rr2 => ?_
          have f12 : Fr H H2 [] := fun a ob ea _ => f2 a ob (f1 a ob ea fun z => nomatch z) fun z => nomatch z
          have eo3 : EO K H2 β σ ρ F := eo.fr0 f12
          have ow3 : OW K H2 v d G := ow.fr f12 .nil fun _ _ z => nomatch z
          obtain ⟨p, vs, Gs, F0, h1, h2, h3, h4, h5, h6, h7, h8⟩ := eo3.change (ds' := ds.set j d) nb nd ow3.mt e3
          rw [h01] at h1
          cases h1
          obtain ⟨G', k1, k2⟩ := h3.set j ow3
          have k1' : OWs K (upd H2 p (.lst (vs.set j v))) (vs.set j v) (ds.set j d) G' := k1.fr Fr.upd1 (MutF.one h2) fun a ha => nin1 (by have := k2 p; rw [ct_app] at this; omega) ha
          obtain ⟨F', c1, c2⟩ := h8 (vs.set j v) G' k1'
          have hk := rr2.rd eo3 e2
          refine ⟨p, vs, kk, j, rfl, hk.int, h2, by rw [h3.len]; exact e4, k _ F' c2 (nd.perm fun a => ?_) ?_⟩
          · have := c1 a; have := k2 a; have := h4 a
            simp only [ct_app, ct_cons] at *
            omega
          · have hpA : p ∈ F ++ G := by
              refine List.mem_append_left _ (mem_ct.mpr ?_)
              have := h4 p
              simp only [ct_cons, if_pos] at this
              omega
            have st0 : Step false H (F ++ G) H2 (F ++ G) := ⟨fun a ha => .inl ha, fun a ob ea _ => f12 a ob ea fun z => nomatch z⟩
            refine (st0.wr hpA).sub fun a ha => ?_
            have z := mem_ct.mp ha
            have := c1 a; have := k2 a; have := h4 a
            refine mem_ct.mpr ?_
            simp only [ct_app, ct_cons] at *
            omega
      · cases e
    · cases e
  · cases e
theorem OWs.set2 {x : V} {p : Addr} {ws : List V} {es es' : List PF.D} {G1 : List Addr} : ∀ {vs : List V} {ds : List PF.D} {G : List Addr} {j : Nat}, OWs K H vs ds G → ds[j]? = some (.l es) → ND G →
    ∃ p ws Ge, vs[j]? = some (.ref p) ∧ H p = some (.lst ws) ∧ OWs K H ws es Ge ∧ p ∈ G ∧ (∀ a ∈ Ge, a ∈ G) ∧ List.count (α := Nat) p Ge = 0 ∧ ∀ ws' es' G', OWs K (upd H p (.lst ws')) ws' es' G' →
      ∃ G2, OWs K (upd H p (.lst ws')) vs (ds.set j (.l es')) G2 ∧ ∀ a : Nat, List.count (α := Nat) a G2 + List.count a Ge = List.count a G + List.count a G'
  | _, _, _, _, .nil, e, _ => by simp at e
  | _, _, _, 0, .cons (G2 := Gr) h hs, e, nd => by
    simp at e
    subst e
    cases h with
    | @l p ws _ Ge h1 h2 =>
      have np := nd p
      simp only [ct_app, ct_cons, if_pos] at np
      refine ⟨p, ws, Ge, rfl, h1, h2, by simp, fun a ha => List.mem_append_left _ (List.mem_cons_of_mem _ ha), by omega, fun ws' es' G' o => ⟨_, .cons (.l upd_same o) (hs.fr Fr.upd1 (MutF.one h1) fun a ha => nin1 (by omega) ha), fun a => ?_⟩⟩
      simp only [ct_app, ct_cons]
      omega
  | _, _, _, j + 1, .cons (G1 := Gh) h hs, e, nd => by
    obtain ⟨p, ws, Ge, h1, h2, h3, h4, h5, h6, h7⟩ := OWs.set2 (x := x) (p := p) (ws := ws) (es' := es') (G1 := G1) hs (by simpa using e) nd.right
    refine ⟨p, ws, Ge, by simpa using h1, h2, h3, List.mem_append_right _ h4, fun a ha => List.mem_append_right _ (h5 a ha), h6, fun ws' es' G' o => ?_⟩
    obtain ⟨G2, k1, k2⟩ := h7 ws' es' G' o
    have np := nd p
    have n4 := mem_ct.mp h4
    rw [ct_app] at np
    refine ⟨_, .cons (h.fr Fr.upd1 (MutF.one h2) fun a ha => nin1 (by omega) ha) k1, fun a => ?_⟩
    have := k2 a
    simp only [ct_app]
    omega
theorem g_s2 {i : Nat} {ie je : Ex} {d : PF.D} {Q : L2.St → Hp → Prop} (nb : noB β) (eo : EO K H β σ ρ F) (ow : OW K H v d G) (nd : ND (F ++ G)) (e : store Γ d ρ (.s2 i ie je) = some ρ2)
    (k : ∀ H2 F2, EO K H2 β σ ρ2 F2 → ND F2 → Step false H (F ++ G) H2 F2 → Q σ H2) : gSub (tOp (rIx K) (xE Γ K (.nm i)) (xE Γ K ie)) (xE Γ K je) rSetL v σ H Q := by
  simp only [store] at e
  split at e
  · rename_i ri ρx e1
    split at e
    · rename_i kk e2
      split at e
      · rename_i ds e3
        split at e
        · rename_i m e4
          split at e
          · rename_i es e5
            split at e
            · rename_i rj ρy e6
              split at e
              · rename_i k2 e7
                split at e
                · rename_i m2 e8
                  cases e
                  obtain ⟨w0, G00, F00, h01, h02, _⟩ := eo.val_at e3
                  refine evQ (q := true) (e := .nm i) (r := .nm i) (ρ1 := ρ) eo nd.left (by simp only [ev, e3]) fun w H1 F1 G1 f1 eo1' rr1 => ?_
                  have eo1 : EO K H1 β σ ρ F := eo.fr0 f1
                  cases rr1 with
                  | nm hi =>
                    rw [h01] at hi
                    cases hi
                    refine evQ (q := true) eo1 nd.left e1 fun wi H2 F2 G2 f2 eo2 rr2 => ?_
                    have f12 : Fr H H2 [] := fun a ob ea _ => f2 a ob (f1 a ob ea fun z => nomatch z) fun z => nomatch z
                    have eo3 : EO K H2 β σ ρ F := eo.fr0 f12
                    obtain ⟨wl, Gl, Fl, l1, l2, _⟩ := eo3.val_at e3
                    rw [h01] at l1
                    cases l1
                    cases l2 with
                    | @l p vs _ Gs l3 l4 =>
                      obtain ⟨u, Gu, u1, u2, _⟩ := l4.get e5
                      have hki := (rr2.rd eo3 e2).int
                      subst hki
                      refine .inl ⟨p, vs, kk, u, rfl, rfl, .of l3, by unfold atI; rw [l4.len, e4]; exact u1, ?_⟩
                      refine evQ (q := true) eo3 nd.left e6 fun wj H4 F4 G4 f4 eo4 rr4 => ?_
                      have f14 : Fr H H4 [] := fun a ob ea _ => f4 a ob (f12 a ob ea fun z => nomatch z) fun z => nomatch z
                      have eo5 : EO K H4 β σ ρ F := eo.fr0 f14
                      have ow5 : OW K H4 v d G := ow.fr f14 .nil fun _ _ z => nomatch z
                      obtain ⟨wl, Gl, F0, l1, l2, eo0, c4⟩ := eo5.val_at e3
                      rw [h01] at l1
                      cases l1
                      cases l2 with
                      | @l _ vs5 _ Gs5 l5 l6 =>
                        have ndG : ND Gs5 := nd.left.perm fun a => by have := c4 a; simp only [ct_cons] at this; omega
                        obtain ⟨p2, ws, Ge, t1, t2, t3, t4, t5, t6, t7⟩ := OWs.set2 (x := v) (p := p) (ws := []) (es' := []) (G1 := []) l6 e5 ndG
                        have hu : u = .ref p2 := by
                          have := f4 p _ l3 (fun z => nomatch z)
                          rw [l5] at this
                          cases this
                          rw [u1] at t1
                          exact Option.some.inj t1
                        subst hu
                        have hkj := (rr4.rd eo5 e7).int
                        obtain ⟨G', s1, s2⟩ := t3.set m2 ow5
                        have hcp := nd p2
                        have c4p := c4 p2
                        have n4 := mem_ct.mp t4
                        simp only [ct_app, ct_cons] at hcp c4p
                        have s1' : OWs K (upd H4 p2 (.lst (ws.set m2 v))) (ws.set m2 v) (es.set m2 d) G' := s1.fr Fr.upd1 (MutF.one t2) fun a ha => nin1 (by have := s2 p2; rw [ct_app] at this; omega) ha
                        obtain ⟨G2', q1, q2⟩ := t7 _ _ _ s1'
                        have hpp : p ≠ p2 := fun z => by subst z; simp only [if_pos] at c4p; omega
                        have l5' : (upd H4 p2 (.lst (ws.set m2 v))) p = some (.lst vs5) := by rw [upd_ne hpp]; exact l5
                        have eo6 : EO K (upd H4 p2 (.lst (ws.set m2 v))) β σ (put ρ i .no) F0 := eo0.fr Fr.upd1 (MutF.one t2) nb fun a ha => nin1 (by omega) ha
                        obtain ⟨F', g1, g2⟩ := eo6.fill (i := i) (look_put _ _ _ (by
                          have := (List.getElem?_eq_some_iff.mp h01).1
                          rw [eo.len]; exact this)) h01 (.l l5' q1)
                        rw [put_put] at g2
                        refine ⟨p2, ws, k2, m2, rfl, hkj, t2, by rw [t3.len]; exact e8, k _ F' g2 (nd.perm fun a => ?_) ?_⟩
                        · have := g1 a; have := q2 a; have := s2 a; have := c4 a
                          simp only [ct_app, ct_cons] at *
                          omega
                        · have hpA : p2 ∈ F ++ G := by
                            refine List.mem_append_left _ (mem_ct.mpr ?_)
                            have := c4 p2
                            simp only [ct_cons] at this
                            omega
                          have st0 : Step false H (F ++ G) H4 (F ++ G) := ⟨fun a ha => .inl ha, fun a ob ea _ => f14 a ob ea fun z => nomatch z⟩
                          refine (st0.wr hpA).sub fun a ha => ?_
                          have z := mem_ct.mp ha
                          have := g1 a; have := q2 a; have := s2 a; have := c4 a
                          refine mem_ct.mpr ?_
                          simp only [ct_app, ct_cons] at *
                          omega
                · cases e
              · cases e
            · cases e
          · cases e
        · cases e
      · cases e
    · cases e
  · cases e
theorem s_app {i : Nat} {e : Ex} (h : xS Γ K (.app i e) D σ H) : tDrop (tBM K "list" rAppend (tVar i) (tCons (xE Γ K e) tNil)) D σ H := by
  obtain ⟨β, ρ, F, o, p, er, m⟩ := h
  simp only [run] at er
  split at er
  · rename_i ds0 e0
    split at er
    · rename_i d ρ1 e1
      split at er
      · rename_i ds e2
        split at er
        · rename_i hl
          cases er
          obtain ⟨w, G0, _, h1, h2, _⟩ := p.eo.val_at e0
          cases h2 with
          | @l q vs0 _ _ h3 h4 =>
            refine ⟨_, h1, .inl ⟨rfl, vs0, .of h3⟩, p.own e1 fun v H1 F1 G h5 => ?_⟩
            obtain ⟨q', vs, Gs, F0, k1, k2, k3, k4, k5, k6, k7, k8⟩ := h5.eo.change (ds' := ds ++ [d]) (p.nb rfl) h5.nd h5.ow.mt e2
            rw [h1] at k1
            cases k1
            have k9 : OWs K (upd H1 q (.lst (vs ++ [v]))) (vs ++ [v]) (ds ++ [d]) (Gs ++ (G ++ [])) :=
              (k3.fr Fr.upd1 (MutF.one k2) fun a ha => nin1 k6 ha).app (.cons (h5.ow.fr Fr.upd1 (MutF.one k2) fun a ha => nin1 k7 ha) .nil)
            obtain ⟨F', c1, c2⟩ := k8 _ _ k9
            refine ⟨q, vs, v, rfl, rfl, k2, by rw [k3.len, ← LIM_line]; exact hl, m _ _ F' ⟨c2, h5.nd.perm fun a => ?_, ?_, .refl _⟩⟩
            · have := c1 a; have := k4 a
              simp only [ct_app, ct_cons, List.count_nil] at *
              omega
            · have hq : q ∈ F1 ++ G := List.mem_append_left _ (mem_ct.mpr (by have := k4 q; simp only [ct_cons, if_pos] at this; omega))
              refine (h5.st.wr hq).sub fun a ha => ?_
              have z := mem_ct.mp ha
              have := c1 a; have := k4 a
              refine mem_ct.mpr ?_
              simp only [ct_app, ct_cons, List.count_nil] at *
              omega
        · cases er
      · cases er
    · cases er
  · cases er
theorem s_ext {i : Nat} {e : Ex} (h : xS Γ K (.ext i e) D σ H) : tDrop (tBM K "list" rExtend (tVar i) (tCons (xE Γ K e) tNil)) D σ H := by
  obtain ⟨β, ρ, F, o, p, er, m⟩ := h
  simp only [run] at er
  split at er
  · rename_i ds0 e0
    split at er
    · rename_i es ρ1 e1
      split at er
      · rename_i ds e2
        split at er
        · rename_i hl
          cases er
          obtain ⟨w, G0, _, h1, h2, _⟩ := p.eo.val_at e0
          cases h2 with
          | @l q vs0 _ _ h3 h4 =>
            refine ⟨_, h1, .inl ⟨rfl, vs0, .of h3⟩, p.own e1 fun v H1 F1 G h5 => ?_⟩
            have how := h5.ow
            have hnd := h5.nd
            cases how with
            | @l b zs _ Gz z1 z2 =>
              obtain ⟨q', vs, Gs, F0, k1, k2, k3, k4, k5, k6, k7, k8⟩ := h5.eo.change (ds' := ds ++ es) (p.nb rfl) h5.nd h5.ow.mt e2
              rw [h1] at k1
              cases k1
              simp only [ct_cons] at k7
              have k9 : OWs K (upd H1 q (.lst (vs ++ zs))) (vs ++ zs) (ds ++ es) (Gs ++ Gz) :=
                (k3.fr Fr.upd1 (MutF.one k2) fun a ha => nin1 k6 ha).app (z2.fr Fr.upd1 (MutF.one k2) fun a ha => nin1 (by omega) ha)
              obtain ⟨F', c1, c2⟩ := k8 _ _ k9
              refine ⟨q, b, vs, zs, rfl, rfl, k2, z1, by rw [k3.len, z2.len, ← LIM_line]; exact hl, m _ _ F' ⟨c2, hnd.perm fun a => ?_, ?_, .refl _⟩⟩
              · have := c1 a; have := k4 a
                simp only [ct_app, ct_cons, List.count_nil] at *
                omega
              · have hq : q ∈ F1 ++ (b :: Gz) := List.mem_append_left _ (mem_ct.mpr (by have := k4 q; simp only [ct_cons, if_pos] at this; omega))
                refine (h5.st.wr hq).sub fun a ha => ?_
                have z := mem_ct.mp ha
                have := c1 a; have := k4 a
                refine mem_ct.mpr ?_
                simp only [ct_app, ct_cons, List.count_nil] at *
                omega
        · cases er
      · cases er
    · cases er
  · cases er
/-- op=, of ints -/
def ipO : Operator → Option Op
  | .Add => some .add | .Sub => some .sub | .Mult => some .mul
  | _ => none
def tIp (o : Op) : TIp := fun x y H Q => ∃ i j z, x = .int i ∧ y = .int j ∧ opD o [.p (.int i), .p (.int j)] = some z ∧ ∀ k, z = .p (.int k) → Q (.int k) H
theorem ip_ok {X : Cx} {op : Operator} {o : Op} (h : ipO op = some o) : PIp X op (tIp o) := by
  intro pins s σ H x y v u Q I rx ry ⟨i, j, z, ex, ey, e, q⟩
  cases op <;> cases h
  · cases e
    exact iop_add pins s σ H x y v u Q I rx ry ⟨i, j, ex, ey, q _ rfl⟩
  · cases e
    exact iop_sub pins s σ H x y v u Q I rx ry ⟨i, j, ex, ey, q _ rfl⟩
  · simp only [opD, mulD] at e
    split at e
    · rename_i hb
      cases e
      exact iop_mul pins s σ H x y v u Q I rx ry ⟨i, j, ex, ey, big64_of hb, q _ rfl⟩
    · cases e
theorem s_aug {i : Nat} {op : Operator} {o : Op} {e : Ex} (ho : ipO op = some o) (h : xS Γ K (.aug i o e) D σ H) : tAug i (xE Γ K e) (tIp o) D σ H := by
  obtain ⟨β, ρ, F, oo, p, er, m⟩ := h
  simp only [run] at er
  split at er
  · rename_i x e0
    split at er
    · rename_i r ρ1 e1
      split at er
      · rename_i y e2
        split at er
        · rename_i z e3
          cases er
          obtain ⟨w, G0, _, h1, h2, _⟩ := p.eo.val_at e0
          have hw : w = .int x := Rd.int ⟨_, h2⟩
          subst hw
          refine ⟨_, h1, β, false, ρ, F, r, ρ1, p, e1, fun v H1 F1 G1 h3 => ⟨x, y, .p z, rfl, (h3.rr.rd h3.eo e2).int, e3, fun k ek => ?_⟩⟩
          cases ek
          obtain ⟨F2, c1, c2⟩ := h3.eo.store' (i := i) (v := .int k) (d := .p (.int k)) (G := []) (.p (.int k))
          rw [List.append_nil] at c1
          exact m _ _ F2 ⟨c2, h3.nd.left.sb c1, h3.st.sub fun a ha => List.mem_append_left _ (c1.mem ha), Bd.set (.refl _)⟩
        · cases er
      · cases er
    · cases er
  · cases er
end
end PF

set_option Elab.async false
set_option linter.all false
set_option maxRecDepth 100000
/-! PF23: loops -/
namespace PF
open PySem PySem.Spec PyProof.Rows L2
section
variable {K : PySem.W.Frag} {H H1 H2 H' : Hp} {β : List Bool} {σ σ' σ1 σ2 : L2.St} {ρ ρ' ρ1 ρ2 : List S} {F F1 F2 A G G1 : List Addr} {r : R} {v : V} {Γ : List CT} {is is2 : List Nat} {D : Ends} {o : Out} {J : It} {w : Wk}
theorem SW.re {a : Sq} {k : Bool} {p : Addr} (h : SW K H σ a k p G) (e : ∀ r ∈ a.lives, σ'[r]? = σ[r]?) : SW K H σ' a k p G := by
  cases h with
  | tup h1 h2 => exact .tup h1 h2
  | ro h1 h2 => exact .ro h1 h2
  | tmp h1 h2 => exact .tmp h1 h2
  | live h1 => exact .live (by rw [e _ List.mem_cons_self]; exact h1)
theorem JW.re (h : JW K H σ J w G) (e : ∀ r ∈ w.lives, σ'[r]? = σ[r]?) : JW K H σ' J w G := by
  cases h with
  | one h => exact .one (h.re e)
  | enum h => exact .enum (h.re e)
  | zip h1 h2 => exact .zip (h1.re fun r hr => e r (List.mem_append_left _ hr)) (h2.re fun r hr => e r (List.mem_append_right _ hr))
  | rng => exact .rng
  | lent h1 h2 => exact .lent h1 h2
theorem less_refl : Less σ σ := fun _ _ h => h
theorem PstB.kill {dead : List Nat} (h : PstB K β σ H F is ρ1 σ1 H1 F1) : ∃ F2, PstB K β σ H F is (PF.kill ρ1 dead) σ1 H1 F2 := by
  obtain ⟨F2, h1, h2⟩ := h.eo.kill dead rfl fun _ _ => rfl
  exact ⟨F2, h2, h.nd.sb h1, h.st.sub fun a ha => h1.mem ha, h.bd⟩
/-- what is aside through a step -/
theorem JW.aside (j : JW K H σ J w G1) (hl : w.isLent = false) (nd : ND (F ++ G1)) (m : MutF H F) (f : Fr H H1 F) : JW K H1 σ J w G1 :=
  j.fr f m (fun a ha z => nd.apart z ha) fun z => by rw [hl] at z; cases z
theorem s_for {tg : Tg} {kind : Nat} {src : List Ex} {body : List St} {dead : List Nat} (h : xS Γ K (.for_ tg kind src body dead) D σ H) : tFor (xI Γ K kind src) (gT K tg) (xB Γ K body) D σ H := by
  obtain ⟨β, ρ, F, o, p, er, mo⟩ := h
  simp only [run] at er
  split at er
  · rename_i rs ρ1 e1
    split at er
    · rename_i w ek
      split at er
      · rename_i hw
        simp only [Bool.and_eq_true, Bool.not_eq_true'] at hw
        obtain ⟨hl, hlv⟩ := hw
        have hlive : ∀ r ∈ w.lives, r ∉ tg.own ++ stsO body := fun r hr => by
          have := List.all_eq_true.mp hlv r hr
          simpa using this
        generalize hf : (fun (d : PF.D) (ρ : List S) => _ : PF.D → List S → Option Out) = f at er
        have nb := p.nb rfl
        refine x_src p e1 ek fun J H1 F1 G1 h1 => ?_
        -- the state at a turn
        let I := fun (i : Nat) (σi : L2.St) (Hi : Hp) => i ≤ w.len ∧ ∃ ρi Fi, PstB K β σ H F (tg.own ++ stsO body) ρi σi Hi Fi ∧ JW K Hi σi J w G1 ∧ ND (Fi ++ G1) ∧ forN w f (w.len - i) ρi = some o
        refine ⟨fun i m σi Hi => m = w.len - i ∧ I i σi Hi, ⟨w.len, rfl, Nat.zero_le _, ?_⟩, ?_⟩
        · have b0 : PstB K β σ H F (tg.own ++ stsO body) ρ1 σ H1 F1 := ⟨h1.eo, h1.nd.left, h1.st.sub fun a ha => List.mem_append_left _ ha, .refl _⟩
          obtain ⟨F2, k1, k2⟩ := h1.eo.kill dead rfl fun _ _ => rfl
          refine ⟨_, F2, ⟨k2, h1.nd.left.sb k1, h1.st.sub fun a ha => List.mem_append_left _ (k1.mem ha), .refl _⟩, h1.jw, h1.nd.perm fun a => ?_, er⟩
          have := k1 a
          simp only [ct_app]
          omega
        rintro i m σi Hi ⟨rfl, hi, ρi, Fi, b, j, nd, hwk⟩
        by_cases hlt : i < w.len
        · refine .inr ?_
          obtain ⟨kn, hk⟩ : ∃ kn, w.len - i = kn + 1 := ⟨w.len - i - 1, by omega⟩
          rw [hk] at hwk
          simp only [forN] at hwk
          have hix : w.len - (kn + 1) = i := by omega
          have hkn : w.len - (i + 1) = kn := by omega
          rw [hix] at hwk
          split at hwk
          · rename_i d ed
            obtain ⟨hgo, hyld⟩ := j.turn b.eo less_refl ed
            refine ⟨hgo, I (i + 1), fun σ' H' hn => ⟨_, (by omega : w.len - (i + 1) < w.len - i), rfl, hn⟩, fun x H3 hy => ?_⟩
            obtain ⟨Gx, ox, ndx, nwx, fx⟩ := (hyld x H3 hy).1 hl
            cases ef : f d ρi with
            | none => rw [ef] at hwk; cases hwk
            | some ob' =>
              have ef' := ef
              rw [← hf] at ef
              simp only at ef
              split at ef
              · rename_i ρb eb
                cases er2 : runs Γ body ρb with
                | none => rw [er2] at ef; cases ef
                | some ob =>
                  rw [er2] at ef
                  cases ef
                  rw [ef'] at hwk
                  refine g_val (b.eo.fr0 fx) ox eb fun σ2 F2 eo2 sb bd => ?_
                  -- the places with the target, from the loop's start
                  have nd2 : ND ((F2 ++ G1)) := by
                    have ndA : ND (Gx ++ (Fi ++ G1)) := ND.keep (F1 := []) (H1 := Hi) (by simpa using nd) (b.eo.mt.app j.mt) ndx fun a ha => .inr (nwx a ha)
                    refine ndA.perm fun a => ?_
                    have := sb a
                    simp only [ct_app] at *
                    omega
                  have st2 : Step false Hi Fi H3 F2 := ⟨fun a ha => by
                    rcases List.mem_append.mp (sb.mem ha) with z | z
                    · exact .inl z
                    · exact .inr (nwx a z), fun a ob ea _ => fx a ob ea fun z => nomatch z⟩
                  have b2 : PstB K β σ H F ((tg.own ++ stsO body) ++ tg.own) ρb σ2 H3 F2 := b.then_ ⟨eo2, nd2.left, st2, bd⟩
                  have j2 : JW K H3 σ2 J w G1 := (j.fr fx .nil (fun _ _ z => nomatch z) (fun _ => rfl)).re fun r hr => bd.out r fun z => hlive r hr (List.mem_append_left _ z)
                  have sub3 : ∀ jj ∈ ((tg.own ++ stsO body) ++ tg.own) ++ stsO body, jj ∈ tg.own ++ stsO body := fun jj hj => by
                    simp only [List.mem_append] at hj ⊢
                    rcases hj with (hj | hj) | hj
                    · exact hj
                    · exact .inl hj
                    · exact .inr hj
                  -- what a turn leaves
                  have next : ∀ {ρ3 : List S}, forN w f kn (PF.kill ρ3 dead) = some o → ∀ σ' H' F', PstB K β σ2 H3 F2 (stsO body) ρ3 σ' H' F' → I (i + 1) σ' H' := fun {ρ3} hfn σ' H' F' q => by
                    have b3 := (b2.then_ q).mono sub3
                    obtain ⟨F4, k1, k2⟩ := q.eo.kill dead rfl fun _ _ => rfl
                    have j3 : JW K H' σ' J w G1 := (j2.aside hl nd2 eo2.mt q.st.fr).re fun r hr => q.bd.out r fun z => hlive r hr (List.mem_append_right _ z)
                    have nd3 : ND (F' ++ G1) := nd2.keep j2.mt q.nd q.st.nw
                    refine ⟨hlt, _, F4, ⟨k2, b3.nd.sb k1, b3.st.sub fun a ha => k1.mem ha, b3.bd⟩, j3, nd3.perm fun a => ?_, by rw [hkn]; exact hfn⟩
                    have := k1 a
                    simp only [ct_app]
                    omega
                  have bb : ∀ {is : List Nat} {ob : Out}, MO D K β σ H F (tg.own ++ stsO body) ob → MO D K β σ2 H3 F2 (stsO body) ob := fun {is ob} mm => MO.from_ b2 (MO.mono mm sub3)
                  have mo : MO D K β σ H F (tg.own ++ stsO body) o := mo
                  refine ⟨β, ρb, F2, ob, ⟨fun _ => nb, eo2, nd2.left⟩, er2, ?_⟩
                  cases ob with
                  | nx ρ3 => exact next hwk
                  | ct ρ3 => exact next hwk
                  | bk ρ3 =>
                    have hwk : some (Out.nx (PF.kill ρ3 dead)) = some o := hwk
                    cases hwk
                    intro σ' H' F' q
                    obtain ⟨F4, q4⟩ := ((b2.then_ q).mono sub3).kill (dead := dead)
                    exact mo σ' H' F4 q4
                  | rt d ρ3 =>
                    have hwk : some (Out.rt d ρ3) = some o := hwk
                    cases hwk
                    intro v σ' H' F' G q
                    exact mo v σ' H' F' G ((b2.thenR q).mono sub3)
              · cases ef
          · cases hwk
        · refine .inl ?_
          have hi' : i = w.len := by omega
          subst hi'
          rw [Nat.sub_self] at hwk
          simp only [forN] at hwk
          split at hwk
          · rename_i hok
            cases hwk
            exact ⟨j.stop b.eo less_refl hok, mo σi Hi Fi b⟩
          · cases hwk
      · cases er
    · cases er
  · cases er
theorem s_whl {c : Ex} {body : List St} {dead : List Nat} (h : xS Γ K (.whl c body dead) D σ H) : tWhile (xT Γ K c) (xB Γ K body) D σ H := by
  obtain ⟨β, ρ, F, o, p, er, mo⟩ := h
  simp only [run] at er
  have nb := p.nb rfl
  have mo : MO D K β σ H F (stsO body) o := mo
  generalize hf : (fun (ρ : List S) => _ : List S → Option Out) = f at er
  obtain ⟨F0, b0⟩ := PstB.kill (dead := dead) (⟨p.eo, p.nd, .refl, .refl _⟩ : PstB K β σ H F (stsO body) ρ σ H F)
  refine ⟨fun m σi Hi => ∃ ρi Fi, PstB K β σ H F (stsO body) ρi σi Hi Fi ∧ whW (evTest Γ c) f m ρi = some o, ⟨FUEL, _, F0, b0, er⟩, ?_⟩
  rintro m σi Hi ⟨ρi, Fi, b, hw⟩
  cases m with
  | zero => cases hw
  | succ m =>
    simp only [whW] at hw
    split at hw
    · rename_i ρ1 e1
      refine (b.pre nb).test e1 fun H1 F1 h1 => ite_tt ?_
      have b1 : PstB K β σ H F (stsO body ++ []) ρ1 σi H1 F1 := b.then_ h1
      cases ef : f ρ1 with
      | none => rw [ef] at hw; cases hw
      | some ob' =>
        have ef' := ef
        rw [← hf] at ef
        simp only at ef
        cases er2 : runs Γ body ρ1 with
        | none => rw [er2] at ef; cases ef
        | some ob =>
          rw [er2] at ef
          cases ef
          rw [ef'] at hw
          have sub3 : ∀ jj ∈ (stsO body ++ []) ++ stsO body, jj ∈ stsO body := fun jj hj => by simpa using hj
          refine ⟨fun σ' H' => ∃ ρi Fi, PstB K β σ H F (stsO body) ρi σ' H' Fi ∧ whW (evTest Γ c) f m ρi = some o, fun σ' H' hn => ⟨m, Nat.lt_succ_self _, hn⟩, β, ρ1, F1, ob, b1.pre nb, er2, ?_⟩
          cases ob with
          | nx ρ3 =>
            intro σ' H' F' q
            obtain ⟨F4, q4⟩ := ((b1.then_ q).mono sub3).kill (dead := dead)
            exact ⟨_, F4, q4, hw⟩
          | ct ρ3 =>
            intro σ' H' F' q
            obtain ⟨F4, q4⟩ := ((b1.then_ q).mono sub3).kill (dead := dead)
            exact ⟨_, F4, q4, hw⟩
          | bk ρ3 =>
            have hw : some (Out.nx (PF.kill ρ3 dead)) = some o := hw
            cases hw
            intro σ' H' F' q
            obtain ⟨F4, q4⟩ := ((b1.then_ q).mono sub3).kill (dead := dead)
            exact mo σ' H' F4 q4
          | rt d ρ3 =>
            have hw : some (Out.rt d ρ3) = some o := hw
            cases hw
            intro v σ' H' F' G q
            exact mo v σ' H' F' G ((b1.thenR q).mono sub3)
    · rename_i ρ1 e1
      cases hw
      refine (b.pre nb).test e1 fun H1 F1 h1 => ite_ff ?_
      exact mo σi H1 F1 ((b.then_ h1).mono fun jj hj => by simpa using hj)
    · cases hw
end
end PF

set_option Elab.async false
set_option linter.all false
set_option maxRecDepth 100000
/-! PF24: from the text to the interpreter's statements -/
namespace PF
open PySem PySem.Spec PyProof.Rows L2
def isStarE : Expr → Bool
  | .Starred .. => true
  | _ => false
def nameAt (sc : Scope) (line : Nat) : Expr → Option Str
  | .Name id pos => if sc.names.lookup id == some .local && pos.line == line then some id else none
  | _ => none
/-- does a display's tuple go to its names from the right -/
def swC (sc : Scope) (ts vs : List Expr) : Option (Option (List Str)) :=
  if (!(ts.length == 2 || ts.length == 3) || vs.length != ts.length) = true then some none else
  if vs.any isStarE = true then some none else
  if ((ts.filterMap (nameAt sc ((ts.head?.map (·.pos.line)).getD 0))).length != ts.length || (ts.filterMap (nameAt sc ((ts.head?.map (·.pos.line)).getD 0))).eraseDups.length != (ts.filterMap (nameAt sc ((ts.head?.map (·.pos.line)).getD 0))).length) = true then some none else
  if vs.all (foldedForSure 8) = true then some none else
  if vs.all (constantsAlone 8) = true then none else some (some (ts.filterMap (nameAt sc ((ts.head?.map (·.pos.line)).getD 0))))
theorem swC_ok {sc : Scope} {ts vs : List Expr} {k k2 : Nat} {p p2 : Pos} {env : Env} {r : Option (List Str)} (hs : env.scope = sc) (hk : sc.kind = .function) (h : swC sc ts vs = some r) : swappedStores [.Tuple ts k p] (.Tuple vs k2 p2) env = pure r := by
  subst hs
  have hb : env.blockKind = .function := by unfold Env.blockKind; rw [hk]; rfl
  have hn : (fun e => match e with
    | .Name id pos => if env.kindOf id == some .local && pos.line == (ts.head?.map (·.pos.line)).getD 0 then some id else none
    | _ => none) = nameAt env.scope ((ts.head?.map (·.pos.line)).getD 0) := by
    funext e
    cases e <;> rfl
  have hst : (fun e => match e with
    | .Starred .. => true
    | _ => false) = isStarE := by
    funext e
    cases e <;> rfl
  unfold swC at h
  have key : swappedStores [.Tuple ts k p] (.Tuple vs k2 p2) env = (if (!(ts.length == 2 || ts.length == 3) || vs.length != ts.length || env.blockKind != .function) = true then pure none else
      if vs.any isStarE = true then pure none else
      if ((ts.filterMap (nameAt env.scope ((ts.head?.map (·.pos.line)).getD 0))).length != ts.length || (ts.filterMap (nameAt env.scope ((ts.head?.map (·.pos.line)).getD 0))).eraseDups.length != (ts.filterMap (nameAt env.scope ((ts.head?.map (·.pos.line)).getD 0))).length) = true then pure none else
      if vs.all (foldedForSure 8) = true then pure none else
      if vs.all (constantsAlone 8) = true then unsupported "assign.tuple-of-constant-expressions:order-of-the-stores" else pure (some (ts.filterMap (nameAt env.scope ((ts.head?.map (·.pos.line)).getD 0))))) := by
    unfold swappedStores
    rw [← hn, ← hst]
    rfl
  rw [key]
  have hb2 : (env.blockKind != .function) = false := by rw [hb]; rfl
  rw [hb2, Bool.or_false]
  rcases ite_cases h with ⟨c, h⟩ | ⟨c, h⟩
  · rw [if_pos c]; cases h; rfl
  rw [if_neg c]
  rcases ite_cases h with ⟨c, h⟩ | ⟨c, h⟩
  · rw [if_pos c]; cases h; rfl
  rw [if_neg c]
  rcases ite_cases h with ⟨c, h⟩ | ⟨c, h⟩
  · rw [if_pos c]; cases h; rfl
  rw [if_neg c]
  rcases ite_cases h with ⟨c, h⟩ | ⟨c, h⟩
  · rw [if_pos c]; cases h; rfl
  rw [if_neg c]
  rcases ite_cases h with ⟨c, h⟩ | ⟨c, h⟩
  · cases h
  rw [if_neg c]
  cases h; rfl
def isCompE : Expr → Bool
  | .ListComp .. => true | .SetComp .. => true | .DictComp .. => true
  | _ => false
def isTuplE : Expr → Bool
  | .Tuple .. => true
  | _ => false
def lcl (sc : Scope) (x : Str) : Bool := decide (sc.names.lookup x = some .local)
/-- does a comprehension's list go straight to the name -/
def swE (sc : Scope) (y : Str) (py : Pos) : Expr → Bool
  | .ListComp _ _ scope pos => lcl sc y && (py.line == pos.line) && !(scope.names.any fun z => z.1 == y && (z.2 == .local || z.2 == .cell))
  | _ => false
def deadOf (dd : List (Nat × List Nat)) (l : Nat) : List Nat := (dd.lookup l).getD []
/-- a def's statement; what is not read comes to nothing -/
def stripS (Δ : Ctx) (dd : List (Nat × List Nat)) (m : Nat) : Nat → Scope → Stmt → St
  | 0, _, _ => .fail
  | n + 1, sc, s => match s with
    | .Return none _ => .retN
    | .Return (some e) _ => match strip Δ m sc e with
      | some x => .ret x
      | none => .fail
    | .Assign [.Name y py] e _ => match slotS Δ sc (.Name y py), strip Δ m sc e with
      | some (_, i), some x => .asg i x
      | _, _ => .fail
    | .Assign [.Tuple ts k p] e _ => if isTuplE e then match e with
        | .Tuple vs _ _ => match swC sc ts vs with
          | some none => match tgS Δ sc (.Tuple ts k p), strip Δ m sc e with
            | some (.many is, _), some x => .asgT is x
            | _, _ => .fail
          | some (some ns) => match ts, vs with
            | [.Name y py, .Name z pz], [a, b] => if ns = [y, z] ∧ lcl sc y ∧ lcl sc z then match slotS Δ sc (.Name y py), slotS Δ sc (.Name z pz), strip Δ m sc a, strip Δ m sc b with
              | some (_, i), some (_, j), some x, some u => if i ≠ j then .asgT [i, j] (.tup [x, u]) else .fail
              | _, _, _, _ => .fail
              else .fail
            | [.Name y py, .Name z pz, .Name w pw], [a, b, c] => if ns = [y, z, w] ∧ lcl sc y ∧ lcl sc z ∧ lcl sc w then match slotS Δ sc (.Name y py), slotS Δ sc (.Name z pz), slotS Δ sc (.Name w pw), optL (strip Δ m sc) [a, b, c] with
              | some (_, i), some (_, j), some (_, l), some xs => if i ≠ j ∧ i ≠ l ∧ j ≠ l then .asgT [i, j, l] (.tup xs) else .fail
              | _, _, _, _ => .fail
              else .fail
            | _, _ => .fail
          | none => .fail
        | _ => .fail
      else match tgS Δ sc (.Tuple ts k p), strip Δ m sc e with
        | some (.many is, _), some x => .asgT is x
        | _, _ => .fail
    | .Assign [.Subscript (.Name y py) ie _] e _ => if visB sc y && okNm y then match ixOf y Δ.N, strip Δ m sc ie, strip Δ m sc e with
      | some i, some u, some x => .asg1 (.s1 i u) x
      | _, _, _ => .fail
      else .fail
    | .Assign [.Subscript (.Subscript (.Name y py) ie _) je _] e _ => if visB sc y && okNm y then match ixOf y Δ.N, strip Δ m sc ie, strip Δ m sc je, strip Δ m sc e with
      | some i, some u, some w, some x => match ie with
        | .Slice .. => .fail
        | _ => .asg1 (.s2 i u w) x
      | _, _, _, _ => .fail
      else .fail
    | .AugAssign (.Name y py) op e _ => match slotS Δ sc (.Name y py), ipO op, strip Δ m sc e with
      | some (_, i), some o, some x => .aug i o x
      | _, _, _ => .fail
    | .Expr (.Constant (.str _) _ _) _ => .pass
    | .Expr (.Call (.Attribute (.Name y py) f apos) [e] [] cpos) _ =>
      if f = "append" then (if visB sc y && okNm y && (apos.endLine == cpos.line) then match ixOf y Δ.N, strip Δ m sc e with
        | some i, some x => .app i x
        | _, _ => .fail
        else .fail)
      else if f = "extend" then (if visB sc y && okNm y && (apos.endLine == cpos.line) then match ixOf y Δ.N, strip Δ m sc e with
        | some i, some x => .ext i x
        | _, _ => .fail
        else .fail)
      else .fail
    | .Expr e _ => if isCompE e then .fail else match strip Δ m sc e with
      | some x => .exp x
      | none => .fail
    | .If c a b _ => match strip Δ m sc c with
      | some x => .ite x (a.map (stripS Δ dd m n sc)) (b.map (stripS Δ dd m n sc))
      | none => .fail
    | .For tg iter body [] pos => match tgS Δ sc tg, iterS Δ sc (strip Δ m sc) (isTupE tg) iter with
      | some (t, _), some (k, src) => .for_ t k src (body.map (stripS Δ dd m n sc)) (deadOf dd pos.line)
      | _, _ => .fail
    | .While c body [] pos => match strip Δ m sc c with
      | some x => .whl x (body.map (stripS Δ dd m n sc)) (deadOf dd pos.line)
      | none => .fail
    | .Pass _ => .pass
    | .Break _ => .brk
    | .Continue _ => .cnt
    | _ => .fail
end PF

set_option Elab.async false
set_option linter.all false
set_option maxRecDepth 100000
/-! PF25: the text's statements do as the interpreter says -/
namespace PF
open PySem PySem.Spec PyProof.Rows L2
section
variable {X : Cx} {Δ : Ctx} {Γ : List CT} {sc : Scope}
structure OkD (X : Cx) (Δ : Ctx) (Γ : List CT) (sc : Scope) : Prop where
  ok : Ok X Δ Γ
  hs : X.env.scope = sc
  kd : sc.kind = .function
  fn : ∀ x, X.fn x = true
  po : PassesOwn (model X.prog X.w) X.A X.env X.xe
theorem PSi {s : Stmt} {t t' : TS} (h : PS X s t) (i : ∀ D σ H, t' D σ H → t D σ H) : PS X s t' := ⟨fun pins s σ H D I q => h.run pins s σ H D I (i _ _ _ q)⟩
theorem PSsi {s : List Stmt} {t t' : TS} (h : PSs X s t) (i : ∀ D σ H, t' D σ H → t D σ H) : PSs X s t' := ⟨fun pins s σ H D I q => h.run pins s σ H D I (i _ _ _ q)⟩
theorem comp_data {n : Nat} {elt tg iter : Expr} {ifs : List Expr} {scope : Scope} {pos : Pos} {x : Ex} (ok : Ok X Δ Γ) (hs : X.env.scope = sc) (h : strip Δ (n + 1) sc (.ListComp elt [⟨tg, iter, ifs, 0⟩] scope pos) = some x) :
    ∃ t own k src cs ex, x = .comp ex t k src cs ∧ own.map (·.2) = t.own ∧ PI X tg iter (xI Γ X.K k src) ∧ BlkOk X.N X.env.scope scope own ∧
      (∀ (s : Shared) (H : Hp) (C : Addr) (cl : List (Str × Addr)) (fp : List Addr), PG (X.blk s H scope (compEnvC scope cl C X.env) fp) tg (gT X.K t)) ∧
      (∀ (s : Shared) (H : Hp) (C : Addr) (cl : List (Str × Addr)) (fp : List Addr), PTs (X.blk s H scope (compEnvC scope cl C X.env) fp) ifs (tT Γ X.K cs)) ∧
      (∀ (s : Shared) (H : Hp) (C : Addr) (cl : List (Str × Addr)) (fp : List Addr), PE (X.blk s H scope (compEnvC scope cl C X.env) fp) elt (xE Γ X.K ex)) ∧ ∀ x, foldedSetIterable iter X.env x = pure x := by
  have st : ∀ e x, strip Δ n sc e = some x → noStar e = true := fun e x h => strip_star h
  have ih := strip_ok Δ Γ n sc X ok hs
  simp only [strip] at h
  split at h
  · rename_i t own e1
    split at h
    · rename_i hb
      simp only [Bool.and_eq_true, decide_eq_true_eq] at hb
      split at h
      · rename_i k src cs x e2 e3 e4
        cases h
        have bo : BlkOk X.N X.env.scope scope own := blkOk_by (by rw [ok.N, hs]; exact hb.1)
        have hloc : ∀ x, locB scope x = true → Loc (relS scope X.env.scope) x := fun x hx => by
          rcases locB_of hx with z | z
          · exact .inl (lookup_relS_keep (by decide) z)
          · exact .inr (lookup_relS_keep (by decide) z)
        have hfn : ∀ x, locB scope x = true → ((scope.names.lookup x == some NameKind.cell) = true ∨ (relS scope X.env.scope).names.lookup x = some .local) := fun x hx => by
          rcases locB_of hx with z | z
          · exact .inr (lookup_relS_keep (by decide) z)
          · refine .inl ?_; rw [z]; rfl
        have sub := fun (s : Shared) (H : Hp) (C : Addr) (cl : List (Str × Addr)) (fp : List Addr) => strip_ok Δ Γ n (relS scope sc) (X.blk s H scope (compEnvC scope cl C X.env) fp) (ok.blk s H scope _ fp) (by rw [← hs]; rfl)
        refine ⟨t, own, k, src, cs, x, rfl, slots_own e1, iter_ok ok hs ih st e2, bo, fun s H C cl fp => ?_, fun s H C cl fp => ?_, fun s H C cl fp => (sub s H C cl fp elt x e4).1, noSet e2 X.env⟩
        · exact (tg_pg (X := X.blk s H scope (compEnvC scope cl C X.env) fp) ok.calm ok.N ok.nd e1 hloc hfn).1
        · cases ifs with
          | nil => cases e3; exact pts_nil
          | cons c r =>
            cases r with
            | cons _ _ => simp at hb
            | nil =>
              simp only [optL] at e3
              split at e3
              · rename_i y ys h1 h2
                cases h2
                cases e3
                exact pts_one (sub s H C cl fp c y h1).2
              · cases e3
      · cases h
    · cases h
  · cases h
theorem pss_ok {f : Stmt → St} (h : ∀ s, PS X s (xS Γ X.K (f s))) : ∀ ss : List Stmt, PSs X ss (xB Γ X.K (ss.map f))
  | [] => PSsi pss_nil fun _ _ _ q => b_nil q
  | s :: ss => PSsi (pss_cons (h s) (pss_ok h ss)) fun _ _ _ q => b_cons q
theorem ps_fail {s : Stmt} : PS X s (xS Γ X.K .fail) := PSi ps_never fun _ _ _ q => s_fail q
theorem sw_not {e : Expr} {t : Option Expr} {l : Nat} {env : Env} (h : isCompE e = false) : swapsWith e t l env = pure false := by
  cases e <;> first | rfl | cases h
theorem sw_eq {elt : Expr} {gs : List Comprehension} {scope : Scope} {pos py : Pos} {y : Str} {l : Nat} {env : Env} :
    swapsWith (.ListComp elt gs scope pos) (some (.Name y py)) l env = pure (env.blockKind == .function && env.kindOf y == some .local && py.line == pos.line && !(scope.names.any fun z => z.1 == y && (z.2 == .local || z.2 == .cell))) := rfl
theorem noStore {tg e : Expr} {env : Env} (h : isTuplE tg = false) (h2 : ∀ es p, tg ≠ .List es p) : swappedStores [tg] e env = pure none := by
  cases tg <;> first | rfl | exact absurd rfl (h2 _ _) | cases h
theorem noStoreV {tg e : Expr} {env : Env} (h : isTuplE e = false) : swappedStores [tg] e env = pure none := by
  cases e <;> first | (cases tg <;> rfl) | cases h
theorem one_eq {tg : Expr} {env : Env} (h : noStar tg = true) : (assignEach [tg] env).map (·.2) = [assign tg env] := by
  cases tg <;> first | rfl | cases h
theorem slot_at {e : Expr} {x : Str} {i : Nat} (h : slotS Δ sc e = some (x, i)) : ∃ p, e = .Name x p ∧ locB sc x = true ∧ ixOf x Δ.N = some i := by
  unfold slotS at h
  split at h
  · rename_i y p
    split at h
    · rename_i hb
      cases e1 : ixOf y Δ.N with
      | none => rw [e1] at h; cases h
      | some j => rw [e1] at h; cases h; exact ⟨p, rfl, hb, e1⟩
    · cases h
  · cases h
theorem strip_comp {n : Nat} {elt : Expr} {gs : List Comprehension} {scope : Scope} {pos : Pos} {x : Ex} (h : strip Δ n sc (.ListComp elt gs scope pos) = some x) : ∃ m tg iter ifs, n = m + 1 ∧ gs = [⟨tg, iter, ifs, 0⟩] := by
  cases n with
  | zero => cases h
  | succ m =>
    unfold strip at h
    split at h <;> first | (rename_i heq; cases heq; exact ⟨m, _, _, _, rfl, rfl⟩) | cases h | skip
    all_goals first | cases h | (rename_i heq; cases heq)
/-- name = e -/
theorem asg_ok {m : Nat} {y : Str} {py pos : Pos} {e : Expr} {i : Nat} {x : Ex} (o : OkD X Δ Γ sc) (h1 : slotS Δ sc (.Name y py) = some (y, i)) (h2 : strip Δ m sc e = some x) : PS X (.Assign [.Name y py] e pos) (xS Γ X.K (.asg i x)) := by
  obtain ⟨p', ep, hl, hi⟩ := slot_at h1
  cases ep
  have pg : PG X (.Name y py) (gName i) := slot_pg o.ok.N o.ok.nd h1 (fun h => by rw [o.hs]; exact locB_of h) (fun _ => .inl (o.fn _))
  have g := strip_ok Δ Γ m sc X o.ok o.hs e x h2
  cases hsw : swE sc y py e with
  | false =>
    refine PSi (ps_asg g.1 pg ?_ (noStore rfl fun _ _ z => nomatch z) rfl) fun _ _ _ q => s_asg q
    show swapsWith e (some (.Name y py)) pos.line X.env = pure false
    cases hc : isCompE e with
    | false => exact sw_not hc
    | true =>
      cases e <;> first | cases hc | skip
      · rename_i elt gs scope cpos
        rw [sw_eq]
        have : X.env.blockKind = .function := by unfold Env.blockKind; rw [o.hs, o.kd]; rfl
        simp only [swE, lcl] at hsw
        have hk : X.env.kindOf y = sc.names.lookup y := by show X.env.scope.names.lookup y = _; rw [o.hs]
        rw [this, hk]
        congr 1
        have e1 : (sc.names.lookup y == some NameKind.local) = decide (sc.names.lookup y = some .local) := by
          cases hh : decide (sc.names.lookup y = some NameKind.local) with
          | true => rw [of_decide_eq_true hh]; rfl
          | false => exact beq_eq_false_iff_ne.mpr (of_decide_eq_false hh)
        rw [e1]
        simpa using hsw
      · cases m <;> simp [strip] at h2
      · cases m <;> simp [strip] at h2
  | true =>
    cases e <;> first | cases hsw | skip
    rename_i elt gs scope cpos
    obtain ⟨m', tg, iter, ifs, rfl, rfl⟩ := strip_comp h2
    obtain ⟨t, own, k, src, cs, ex, rfl, how, hpi, bo, hg, ht, he, hset⟩ := comp_data o.ok o.hs h2
    simp only [swE, lcl, Bool.and_eq_true, decide_eq_true_eq] at hsw
    obtain ⟨⟨w1, w2⟩, w3⟩ := hsw
    have hyl : X.env.scope.names.lookup y = some .local := by rw [o.hs]; exact w1
    have hsw' : swapsWith (.ListComp elt [⟨tg, iter, ifs, 0⟩] scope cpos) (some (.Name y py)) pos.line X.env = pure true := by
      rw [sw_eq]
      have b1 : X.env.blockKind = .function := by unfold Env.blockKind; rw [o.hs, o.kd]; rfl
      have hk : X.env.kindOf y = some .local := hyl
      rw [b1, hk, w2, w3]
      rfl
    refine PSi (ps_setLc (i := i) o.ok.calm o.ok.nd (by rw [o.ok.N]; exact ixOf_get hi) hyl hsw' hpi bo hg ht he hset) fun D σ H q => ?_
    have q := s_asg q
    rw [how]
    exact x_comp q
theorem lcl_of {y : Str} (o : OkD X Δ Γ sc) (h : lcl sc y = true) : X.env.scope.names.lookup y = some .local := by
  rw [o.hs]; exact of_decide_eq_true h
theorem slot_N {e : Expr} {y : Str} {i : Nat} (o : OkD X Δ Γ sc) (h : slotS Δ sc e = some (y, i)) : X.N[i]? = some y := by
  obtain ⟨_, _, _, hi⟩ := slot_at h
  rw [o.ok.N]; exact ixOf_get hi
theorem tgD {tg : Expr} {t : Tg} {own : List (Str × Nat)} (o : OkD X Δ Γ sc) (h : tgS Δ sc tg = some (t, own)) : PG X tg (gT X.K t) :=
  (tg_pg o.ok.calm o.ok.N o.ok.nd h (fun x hx => by rw [o.hs]; exact locB_of hx) fun x _ => .inl (o.fn x)).1
/-- names = e -/
theorem asgT_ok {m : Nat} {ts : List Expr} {k : Nat} {p pos : Pos} {e : Expr} {is : List Nat} {own : List (Str × Nat)} {x : Ex} (o : OkD X Δ Γ sc) (h1 : tgS Δ sc (.Tuple ts k p) = some (.many is, own)) (h2 : strip Δ m sc e = some x) (hw : swappedStores [.Tuple ts k p] e X.env = pure none) :
    PS X (.Assign [.Tuple ts k p] e pos) (xS Γ X.K (.asgT is x)) :=
  PSi (ps_asg (strip_ok Δ Γ m sc X o.ok o.hs e x h2).1 (tgD o h1) (by cases e <;> rfl) hw rfl) fun _ _ _ q => s_asgT q
theorem var_pe {y : Str} {py : Pos} {i : Nat} (o : OkD X Δ Γ sc) (h : (visB sc y && okNm y) = true) (hi : ixOf y Δ.N = some i) : PE X (.Name y py) (tVar i) := by
  simp only [Bool.and_eq_true] at h
  obtain ⟨hd, hcd, _⟩ := okNm_of h.2
  exact pe_var (by rw [o.ok.N]; exact ixOf_get hi) (by rw [o.hs]; exact visB_of h.1) hd hcd
theorem s_asg1a {Γ : List CT} {K : PySem.W.Frag} {i : Nat} {ie x : Ex} {D : Ends} {σ : L2.St} {H : Hp} (h : xS Γ K (.asg1 (.s1 i ie) x) D σ H) : tAsg (xE Γ K x) (gSub (xE Γ K (.nm i)) (xE Γ K ie) rSetL) D σ H := by
  obtain ⟨β, ρ, F, oo, p, er, mo⟩ := h
  simp only [run] at er
  split at er
  · rename_i d ρ1 e1
    cases e2 : store Γ d ρ1 (.s1 i ie) with
    | none => rw [e2] at er; cases er
    | some ρ2 =>
      rw [e2] at er; cases er
      refine p.own e1 fun v H1 F1 G h1 => g_s1 (p.nb rfl) h1.eo h1.ow h1.nd e2 fun H2 F2 eo nd st => mo σ H2 F2 ⟨eo, nd, ?_, .refl _⟩
      exact (h1.st.trans (F1 := F1 ++ G) (fun a ha => ha) st id).sub fun a ha => List.mem_append_right _ ha
  · cases er
theorem s_asg1b {Γ : List CT} {K : PySem.W.Frag} {i : Nat} {ie je x : Ex} {D : Ends} {σ : L2.St} {H : Hp} (h : xS Γ K (.asg1 (.s2 i ie je) x) D σ H) : tAsg (xE Γ K x) (gSub (tOp (rIx K) (xE Γ K (.nm i)) (xE Γ K ie)) (xE Γ K je) rSetL) D σ H := by
  obtain ⟨β, ρ, F, oo, p, er, mo⟩ := h
  simp only [run] at er
  split at er
  · rename_i d ρ1 e1
    cases e2 : store Γ d ρ1 (.s2 i ie je) with
    | none => rw [e2] at er; cases er
    | some ρ2 =>
      rw [e2] at er; cases er
      refine p.own e1 fun v H1 F1 G h1 => g_s2 (p.nb rfl) h1.eo h1.ow h1.nd e2 fun H2 F2 eo nd st => mo σ H2 F2 ⟨eo, nd, ?_, .refl _⟩
      exact (h1.st.trans (F1 := F1 ++ G) (fun a ha => ha) st id).sub fun a ha => List.mem_append_right _ ha
  · cases er
theorem bm_ok {m : Nat} {y f : Str} {py apos cpos pos : Pos} {e : Expr} {i : Nat} {x : Ex} {id : String} {rr : V → List V → Hp → VK → Prop} (o : OkD X Δ Γ sc) (h : (visB sc y && okNm y && (apos.endLine == cpos.line)) = true) (hi : ixOf y Δ.N = some i) (h2 : strip Δ m sc e = some x)
    (sl : Slot "list" f id) (hty : typeOf (.builtin id) = pure (.type "method_descriptor")) (hm : MtR X id rr) :
    PS X (.Expr (.Call (.Attribute (.Name y py) f apos) [e] [] cpos) pos) (tDrop (tBM X.K "list" rr (tVar i) (tCons (xE Γ X.K x) tNil))) := by
  simp only [Bool.and_eq_true] at h
  have st := strip_star h2
  have hs := star1 (es := []) (env := X.env) st
  refine ps_expr (pe_bm PySem.F.plainAttrs_list sl hty hm (var_pe o (by simp only [Bool.and_eq_true]; exact h.1) hi) (pa_cons (strip_ok Δ Γ m sc X o.ok o.hs e x h2).1 pa_nil hs) rfl ?_ h.2 hs rfl) rfl
  rw [hs]; rfl
theorem strip_noSl {m : Nat} {e : Expr} {x : Ex} (h : strip Δ m sc e = some x) : ∀ l u s p, e ≠ .Slice l u s p := by
  rintro l u s p rfl
  cases m with
  | zero => cases h
  | succ m => simp only [strip] at h; cases h
theorem asg_sub {oe i : Expr} {pos : Pos} {env : Env} (h : ∀ l u s p, i ≠ .Slice l u s p) (v : Value) : assign (.Subscript oe i pos) env v = (do
      let ov ← holding [v] (eval oe env)
      let iv ← holding [v, ov] (eval i env)
      standAt pos
      holding [v, ov, iv] (setItem ov iv v)
      release [v, ov, iv] []) := by
  cases i <;> first | rfl | exact absurd rfl (h _ _ _ _)
theorem stripS_ok (dd : List (Nat × List Nat)) (m : Nat) (o : OkD X Δ Γ sc) : ∀ (n : Nat) (s : Stmt), PS X s (xS Γ X.K (stripS Δ dd m n sc s)) := by
  intro n
  induction n with
  | zero => intro s; exact ps_fail
  | succ n ih =>
    intro s
    have ex := fun e x => strip_ok Δ Γ m sc X o.ok o.hs e x
    unfold stripS
    split
    · exact PSi ps_retN fun _ _ _ q => s_retN q
    · split
      · rename_i e1; exact PSi (ps_ret (ex _ _ e1).1) fun _ _ _ q => s_ret q
      · exact ps_fail
    · split
      · rename_i y' i x e1 e2
        obtain ⟨p', ep, _, _⟩ := slot_at e1
        cases ep
        exact asg_ok o e1 e2
      · exact ps_fail
    · rename_i ts k p e pos
      split
      · rename_i ht
        split
        · rename_i vs k2 p2
          split
          · rename_i e1
            split
            · rename_i is own x e2 e3
              exact asgT_ok o e2 e3 (swC_ok o.hs o.kd e1)
            · exact ps_fail
          · rename_i ns e1
            have hw := swC_ok (k := k) (k2 := k2) (p := p) (p2 := p2) o.hs o.kd e1
            split
            · rename_i y py z pz a b
              split
              · rename_i hc
                obtain ⟨rfl, l1, l2⟩ := hc
                split
                · rename_i y' i z' j x u e2 e3 e4 e5
                  obtain ⟨_, ep, _, _⟩ := slot_at e2
                  cases ep
                  obtain ⟨_, ep, _, _⟩ := slot_at e3
                  cases ep
                  split
                  · rename_i hij
                    have ha : PA X [a, b] (xL Γ X.K [x, u]) := pa_ok (f := strip Δ m sc) ex (fun e x h => strip_star h) (by simp only [optL, e4, e5])
                    refine PSi (ps_par o.ok.calm o.ok.nd (slot_N o e2) (slot_N o e3) hij (lcl_of o l1) (lcl_of o l2) ha hw rfl) fun D σ H q => ?_
                    obtain ⟨β, q', ρ, F, ds, ρ', pr, ee, kk⟩ := s_asgD q
                    refine ⟨β, q', ρ, F, ds, ρ', pr, ee, fun vs H' F' G h => ?_⟩
                    obtain ⟨v, r, e6, w, r2, e7, e8, hq⟩ := kk vs H' F' G h
                    subst e6 e7 e8
                    exact ⟨v, w, rfl, hq⟩
                  · exact ps_fail
                · exact ps_fail
              · exact ps_fail
            · rename_i y py z pz w pw a b c
              split
              · rename_i hc
                obtain ⟨rfl, l1, l2, l3⟩ := hc
                split
                · rename_i y' i z' j w' l xs e2 e3 e4 e5
                  obtain ⟨_, ep, _, _⟩ := slot_at e2
                  cases ep
                  obtain ⟨_, ep, _, _⟩ := slot_at e3
                  cases ep
                  obtain ⟨_, ep, _, _⟩ := slot_at e4
                  cases ep
                  split
                  · rename_i hij
                    have ha : PA X [a, b, c] (xL Γ X.K xs) := pa_ok (f := strip Δ m sc) ex (fun e x h => strip_star h) e5
                    refine PSi (ps_par3 o.ok.calm o.ok.nd (slot_N o e2) (slot_N o e3) (slot_N o e4) hij.1 hij.2.1 hij.2.2 (lcl_of o l1) (lcl_of o l2) (lcl_of o l3) ha hw rfl) fun D σ H q => ?_
                    obtain ⟨β, q', ρ, F, ds, ρ', pr, ee, kk⟩ := s_asgD q
                    refine ⟨β, q', ρ, F, ds, ρ', pr, ee, fun vs H' F' G h => ?_⟩
                    obtain ⟨v, r, e6, w, r2, e7, t, r3, e8, e9, hq⟩ := kk vs H' F' G h
                    subst e6 e7 e8 e9
                    exact ⟨v, w, t, rfl, hq⟩
                  · exact ps_fail
                · exact ps_fail
              · exact ps_fail
            · exact ps_fail
          · exact ps_fail
        · exact ps_fail
      · rename_i ht
        split
        · rename_i is own x e1 e2
          exact asgT_ok o e1 e2 (noStoreV (by simpa using ht))
        · exact ps_fail
    · rename_i y py ie p e pos
      split
      · rename_i hv
        split
        · rename_i i u x e1 e2 e3
          have pn : PE X (.Name y py) (xE Γ X.K (.nm i)) := PEi (var_pe o hv e1) fun _ _ _ q => x_nm q
          exact PSi (ps_asg (ex _ _ e3).1 (pg_sub pn (ex _ _ e2).1 set_list (asg_sub (strip_noSl e2))) (by cases e <;> rfl) (noStore rfl fun _ _ z => nomatch z) rfl) fun _ _ _ q => s_asg1a q
        · exact ps_fail
      · exact ps_fail
    · rename_i y py ie p1 je p2 e pos
      split
      · rename_i hv
        split
        · rename_i i u w x e1 e2 e3 e4
          split
          · exact ps_fail
          · rename_i hns
            have pn : PE X (.Name y py) (xE Γ X.K (.nm i)) := PEi (var_pe o hv e1) fun _ _ _ q => x_nm q
            exact PSi (ps_asg (ex _ _ e4).1 (pg_sub (pe_ix ix_seq pn (ex _ _ e2).1 (plainIx fun l u p ee => hns _ _ _ _ ee)) (ex _ _ e3).1 set_list (asg_sub (strip_noSl e3))) (by cases e <;> rfl) (noStore rfl fun _ _ z => nomatch z) rfl) fun _ _ _ q => s_asg1b q
        · exact ps_fail
      · exact ps_fail
    · rename_i y py op e pos
      split
      · rename_i y' i oo x e1 e2 e3
        obtain ⟨_, ep, hl, hi⟩ := slot_at e1
        cases ep
        exact PSi (ps_aug o.ok.nd (slot_N o e1) (by rw [o.hs]; exact locB_of hl) (ex _ _ e3).1 (ip_ok e2) (.inl (o.fn _))) fun _ _ _ q => s_aug e2 q
      · exact ps_fail
    · exact PSi ps_doc fun _ _ _ q => s_pass q
    · rename_i y py f apos e cpos pos
      split
      · rename_i hf
        subst hf
        split
        · rename_i hv
          split
          · rename_i i x e1 e2
            exact PSi (bm_ok o hv e1 e2 PySem.F.slot_list_append PySem.F.type_list_append mt_append) fun _ _ _ q => s_app q
          · exact ps_fail
        · exact ps_fail
      · split
        · rename_i hf
          subst hf
          split
          · rename_i hv
            split
            · rename_i i x e1 e2
              exact PSi (bm_ok o hv e1 e2 PySem.F.slot_list_extend PySem.F.type_list_extend mt_extend) fun _ _ _ q => s_ext q
            · exact ps_fail
          · exact ps_fail
        · exact ps_fail
    · rename_i e pos _ _
      split
      · exact ps_fail
      · rename_i hc
        split
        · rename_i x e1
          exact PSi (ps_expr (ex _ _ e1).1 (sw_not (by simpa using hc))) fun _ _ _ q => s_exp q
        · exact ps_fail
    · split
      · rename_i x e1
        exact PSi (ps_if (ex _ _ e1).2 (pss_ok ih _) (pss_ok ih _)) fun _ _ _ q => s_ite q
      · exact ps_fail
    · rename_i tg iter body pos
      split
      · rename_i t own k src e1 e2
        exact PSi (ps_for o.po o.ok.calm (iter_ok o.ok o.hs ex (fun e x h => strip_star h) e2) (tgD o e1) (pss_ok ih _) (noSet e2 X.env)) fun _ _ _ q => s_for q
      · exact ps_fail
    · split
      · rename_i x e1
        exact PSi (ps_while o.po (ex _ _ e1).2 (pss_ok ih _)) fun _ _ _ q => s_whl q
      · exact ps_fail
    · exact PSi ps_pass fun _ _ _ q => s_pass q
    · exact PSi ps_break fun _ _ _ q => s_brk q
    · exact PSi ps_continue fun _ _ _ q => s_cnt q
    · exact ps_fail
end
end PF

set_option Elab.async false
set_option linter.all false
set_option maxRecDepth 100000
/-! PF26: defs -/
namespace PF
open PySem PySem.Spec PyProof.Rows L2
section
variable {K : PySem.W.Frag} {H H1 H2 H' : Hp} {β : List Bool} {σ σ' : L2.St} {ρ ρ' : List S} {F G : List Addr}
theorem EO.nos : ∀ n : Nat, EO K H (List.replicate n false) (List.replicate n none) (List.replicate n S.no) []
  | 0 => .nil
  | n + 1 => by
    rw [List.replicate_succ, List.replicate_succ, List.replicate_succ]
    exact .no (EO.nos n)
theorem EO.start {N : Nat} : ∀ {vs : List V} {ds : List D} {G : List Addr}, OWs K H vs ds G → EO K H (List.replicate (ds.length + N) false) (vs.map some ++ List.replicate N none) (ds.map S.val ++ List.replicate N S.no) G
  | _, _, _, .nil => by
    simp only [List.length_nil, Nat.zero_add, List.map_nil, List.nil_append]
    exact EO.nos N
  | _, d :: ds, _, .cons o h => by
    have e : (d :: ds).length + N = (ds.length + N) + 1 := by simp only [List.length_cons]; omega
    rw [e, List.replicate_succ]
    exact .val o (EO.start h)
theorem noB_rep (n : Nat) : noB (List.replicate n false) := fun b h => (List.mem_replicate.mp h).2
theorem left_put {st : List Nat} {i : Nat} {s : S} : ∀ {ds : List D} {k : Nat}, i < k → left st k ds (put ρ i s) = left st k ds ρ
  | [], _, _ => rfl
  | d :: ds, k, h => by
    simp only [left]
    rw [look_put_ne _ _ (by omega : k ≠ i), left_put (by omega)]
theorem bks_of {st : List Nat} : ∀ {vs : List V} {ds : List D} {i : Nat} {ρ : List S} {F : List Addr}, vs.length = ds.length → EO K H β σ ρ F → (∀ j v, vs[j]? = some v → i + j ∉ st → σ[i + j]? = some (some v)) →
    ∃ Gb, Bks K H vs (left st i ds ρ) Gb ∧ Sb Gb F
  | [], [], _, _, _, _, _, _ => ⟨[], .nil, fun a => by simp⟩
  | [], _ :: _, _, _, _, e, _, _ => by cases e
  | _ :: _, [], _, _, _, e, _, _ => by cases e
  | v :: vs, d :: ds, i, ρ, F, e, eo, h => by
    have hn : ∀ (j : Nat) (w : V), vs[j]? = some w → i + 1 + j ∉ st → σ[i + 1 + j]? = some (some w) := fun j w h1 h2 => by
      have := h (j + 1) w (by simpa using h1) (by rw [show i + (j + 1) = i + 1 + j by omega]; exact h2)
      rw [show i + (j + 1) = i + 1 + j by omega] at this
      exact this
    simp only [left]
    by_cases hc : (isP d || st.contains i) = true
    · rw [if_pos hc]
      obtain ⟨Gb, h1, h2⟩ := bks_of (vs := vs) (ds := ds) (i := i + 1) (by simpa using e) eo hn
      exact ⟨Gb, .none h1, h2⟩
    · rw [if_neg hc]
      have hst : i ∉ st := fun z => hc (by rw [Bool.or_eq_true]; exact .inr (by simpa using z))
      cases el : look ρ i with
      | val x =>
        obtain ⟨w, G, F', h1, h2, h3, h4⟩ := eo.val_at el
        have hv := h 0 v rfl (by simpa using hst)
        rw [Nat.add_zero] at hv
        rw [hv] at h1
        cases h1
        obtain ⟨Gb, h5, h6⟩ := bks_of (vs := vs) (ds := ds) (i := i + 1) (by simpa using e) h3 hn
        rw [left_put (by omega)] at h5
        exact ⟨_, .some h2 h5, fun a => by rw [ct_app]; have := h6 a; have := h4 a; omega⟩
      | no =>
        obtain ⟨Gb, h1, h2⟩ := bks_of (vs := vs) (ds := ds) (i := i + 1) (by simpa using e) eo hn
        exact ⟨Gb, .none h1, h2⟩
      | bor x =>
        obtain ⟨Gb, h1, h2⟩ := bks_of (vs := vs) (ds := ds) (i := i + 1) (by simpa using e) eo hn
        exact ⟨Gb, .none h1, h2⟩
end
/-- a def as it stands in the module -/
structure CalG (P : Program) (w : World) (K : PySem.W.Frag) (mg : Str → Option Value) (base : Heap) (k : Nat) (c : CT) (f : Str) where
  a : Addr
  fd : FuncData
  ps : List Str
  fn : FnOk P w K mg base CXn k a fd ps (spC K c)
  glob : mg f = some (.ref a)
  kp : PySem.W.keepIn K (.ref a) = true
  bi : Binds K fd ps []
/-- what the module gives a def -/
structure Env1 (P : Program) (w : World) (K : PySem.W.Frag) (mg : Str → Option Value) (base : Heap) (Δ : Ctx) (Γ : List CT) (k : Nat) : Prop where
  fs : ∀ (i : Nat) (f : Str), Δ.fs[i]? = some f → ∃ c, Γ[i]? = some c ∧ ∃ j, j ≤ k ∧ Nonempty (CalG P w K mg base j c f)
  gs : ∀ (x : Str) (t : T), Δ.gs.lookup x = some t → ∃ u v, mg x = some u ∧ RelV v u ∧ ∀ H, RT K H v t
  bl : ∀ b : Str, Δ.bl.contains b = true → mg b = none
theorem fn_ok {P : Program} {w : World} {K : PySem.W.Frag} {mg : Str → Option Value} {base : Heap} {k m n : Nat} {dd : List (Nat × List Nat)} {Δ : Ctx} {Γ : List CT} {f : Addr} {name qual : Str} {params : Arguments} {body : List Stmt} {scope : Scope} {dV kV doc pm cdv ct oc : Value} {an od : Option Addr}
    {osl : Array (Option Value)} {ps : List Str} (E1 : Env1 P w K mg base Δ Γ k) (lk : K.lookup f = some ⟨oc, od, .func (PySem.W.fnOf name qual params body scope dV kV doc pm an cdv ct), osl⟩) (hcd : PySem.W.codeIn K cdv qual = true) (S : FnScope Δ.N ps scope) :
    FnOk P w K mg base CXn (k + 1) f (PySem.W.fnOf name qual params body scope dV kV doc pm an cdv ct) ps (spC K (mk Γ Δ.N.length ps.length (body.map (stripS Δ dd m n scope)))) := by
  refine fn_of lk hcd S (fun vs H Q E ⟨ds, Gs, d, os, ow, nd, e, _⟩ => ?_) fun A outer s H vs Q E hr ⟨ds, Gs, d, os, ow, nd, e, kk⟩ => ?_
  · unfold mk at e
    split at e
    · rename_i hl
      rw [ow.len, hl]
    · cases e
  · refine ⟨xB Γ K (body.map (stripS Δ dd m n scope)), ?_, ?_⟩
    · have o : OkD (cxOf CXn P w K mg base Δ.N qual scope f cdv A outer s H E) Δ Γ scope := by
        refine ⟨⟨rfl, S.nd, rfl, ?_, fun i g h => ?_, E1.gs, E1.bl⟩, rfl, S.kind, fun _ => rfl, passes_of rfl⟩
        · have := hr.un
          show (A.deeper _).units + 65 < cLine
          omega
        · obtain ⟨c, h1, j, hj, ⟨l⟩⟩ := E1.fs i g h
          exact ⟨c, h1, ⟨⟨l.a, l.fd, l.ps, j, l.fn, hr.mono hj, l.glob, l.kp, l.bi⟩⟩⟩
      exact pss_ok (fun st => stripS_ok dd m o n st) body
    · unfold mk at e
      split at e
      · rename_i hl
        have hpl : ps.length ≤ Δ.N.length := by have := congrArg List.length S.pre; rw [List.length_take] at this; omega
        have eo : EO K H (List.replicate (ds.length + (Δ.N.length - ds.length)) false) (L2.start Δ.N vs) (startS Δ.N.length ds) Gs := by
          have := EO.start (N := Δ.N.length - ds.length) ow
          unfold L2.start startS
          rw [ow.len]
          exact this
        have hst : ∀ {σ' : L2.St}, Bd (L2.start Δ.N vs) σ' (stsO (body.map (stripS Δ dd m n scope))) → ∀ j v, vs[j]? = some v → 0 + j ∉ stsO (body.map (stripS Δ dd m n scope)) → σ'[0 + j]? = some (some v) := fun {σ'} bd j v hv hn => by
          rw [bd.out _ hn, Nat.zero_add]
          unfold L2.start
          have hj : j < vs.length := (List.getElem?_eq_some_iff.mp hv).1
          rw [List.getElem?_append_left (by simpa using hj), List.getElem?_map, hv]
          rfl
        split at e
        · rename_i dd' ρ' er
          cases e
          refine ⟨_, startS Δ.N.length ds, Gs, _, ⟨fun _ => noB_rep _, eo, nd⟩, er, fun v σ' H' F' G h => ?_⟩
          obtain ⟨Gb, b1, b2⟩ := bks_of (st := stsO (body.map (stripS Δ dd m n scope))) (vs := vs) (ds := ds) (i := 0) ow.len h.eo (hst h.bd)
          refine kk v H' G Gb ⟨h.ow, b1, h.nd.perm fun a => ?_, fun a ha => h.st.nw a ?_, h.st.fr⟩
          · have := b2 a
            simp only [ct_app]
            omega
          · rcases List.mem_append.mp ha with ha | ha
            · exact List.mem_append_right _ ha
            · exact List.mem_append_left _ (b2.mem ha)
        · rename_i ρ' er
          cases e
          refine ⟨_, startS Δ.N.length ds, Gs, _, ⟨fun _ => noB_rep _, eo, nd⟩, er, fun σ' H' F' h => ?_⟩
          obtain ⟨Gb, b1, b2⟩ := bks_of (st := stsO (body.map (stripS Δ dd m n scope))) (vs := vs) (ds := ds) (i := 0) ow.len h.eo (hst h.bd)
          refine kk .non H' [] Gb ⟨.p .non, b1, h.nd.perm fun a => ?_, fun a ha => h.st.nw a (b2.mem (by simpa using ha)), h.st.fr⟩
          have := b2 a
          simp only [List.nil_append]
          omega
        · cases e
      · cases e
end PF

set_option Elab.async false
set_option linter.all false
set_option maxRecDepth 100000
/-! PF27: a module's defs, one by one -/
namespace PF
open PySem PySem.Spec PyProof.Rows L2
inductive Cals (P : Program) (w : World) (K : PySem.W.Frag) (mg : Str → Option Value) (base : Heap) (k : Nat) : List Str → List CT → Prop
  | nil : Cals P w K mg base k [] []
  | cons {j : Nat} {f : Str} {c : CT} {fs : List Str} {Γ : List CT} : Nonempty (CalG P w K mg base j c f) → j ≤ k → Cals P w K mg base k fs Γ → Cals P w K mg base k (f :: fs) (c :: Γ)
/-- the module's numbers, the built-ins that it leaves as they are -/
structure Mo (mg : Str → Option Value) (nums : List (Str × Int)) (bl : List Str) : Prop where
  nums : ∀ p ∈ nums, ∃ t, mg p.1 = some (.int p.2 t)
  bl : ∀ b ∈ bl, mg b = none
def gsI (nums : List (Str × Int)) : List (Str × T) := nums.map fun p => (p.1, .int p.2)
section
variable {P : Program} {w : World} {K : PySem.W.Frag} {mg : Str → Option Value} {base : Heap} {k m n : Nat} {nums : List (Str × Int)} {bl N fs : List Str} {Γ : List CT}
theorem Cals.at_ (h : Cals P w K mg base k fs Γ) : ∀ (i : Nat) (f : Str), fs[i]? = some f → ∃ c, Γ[i]? = some c ∧ ∃ j, j ≤ k ∧ Nonempty (CalG P w K mg base j c f) := by
  induction h with
  | nil => intro i f e; simp at e
  | cons a b _ ih =>
    intro i f e
    cases i with
    | zero => simp at e; subst e; exact ⟨_, rfl, _, b, a⟩
    | succ i => simpa using ih i f (by simpa using e)
theorem lookup_gs {x : Str} {t : T} : ∀ {nums : List (Str × Int)}, (gsI nums).lookup x = some t → ∃ p ∈ nums, p.1 = x ∧ t = .int p.2
  | [], h => by cases h
  | p :: r, h => by
    unfold gsI at h
    rw [List.map_cons, List.lookup_cons] at h
    cases e : x == p.1 with
    | true =>
      rw [e] at h
      cases h
      exact ⟨p, List.mem_cons_self, (eq_of_beq e).symm, rfl⟩
    | false =>
      rw [e] at h
      obtain ⟨q, h1, h2⟩ := lookup_gs (nums := r) h
      exact ⟨q, List.mem_cons_of_mem _ h1, h2⟩
theorem Mo.env (M : Mo mg nums bl) (h : Cals P w K mg base k fs Γ) : Env1 P w K mg base ⟨N, fs, gsI nums, bl⟩ Γ k :=
  ⟨h.at_, fun x t e => by
    obtain ⟨p, h1, h2, h3⟩ := lookup_gs e
    obtain ⟨tk, h4⟩ := M.nums p h1
    rw [h2] at h4
    exact ⟨_, .int p.2, h4, ⟨tk, rfl⟩, fun H => by rw [h3]; exact .int _⟩, fun b e => M.bl b (by simpa using e)⟩
theorem cal_of {dd : List (Nat × List Nat)} {x : Str} {params : Arguments} {body : List Stmt} {scope : Scope} {f : Addr} {fd : FuncData} {ps : List Str} {C : CT} (M : Mo mg nums bl) (F : FunD K x x params body scope [] [] f fd) (hg : mg x = some (.ref f)) (S : FnScope N ps scope) (cs : Cals P w K mg base k fs Γ)
    (hC : mk Γ N.length ps.length (body.map (stripS ⟨N, fs, gsI nums, bl⟩ dd m n scope)) = C)
    (hb : ∀ (kV doc pm : Value) (an : Option Addr) (cdv ct : Value) (us : List Value), us.length = ps.length → bindArgs (PySem.W.fnOf x x params body scope .none kV doc pm an cdv ct) ⟨us, []⟩ = pure (ps.zip us)) : Nonempty (CalG P w K mg base (k + 1) C x) := by
  have b := F.bindsN hb
  have kp := F.kp
  obtain ⟨oc, od, dV, kV, doc, pm, an, cdv, ct, osl, rfl, lk, hcd, _, _⟩ := F.ex
  subst hC
  exact ⟨⟨f, _, ps, fn_ok (Δ := ⟨N, fs, gsI nums, bl⟩) (M.env cs) lk hcd S, hg, kp, b⟩⟩
/-- the law's def -/
theorem law_of {dd : List (Nat × List Nat)} {x y : Str} {params : Arguments} {body : List Stmt} {scope : Scope} {f : Addr} {fd : FuncData} {C : CT} (M : Mo mg nums bl) (F : FunD K x x params body scope [] [] f fd) (S : FnScope N [y] scope) (cs : ∀ base : Heap, Cals P w K mg base k fs Γ)
    (hC : mk Γ N.length 1 (body.map (stripS ⟨N, fs, gsI nums, bl⟩ dd m n scope)) = C)
    (hb : ∀ (kV doc pm : Value) (an : Option Addr) (cdv ct : Value) (us : List Value), us.length = 1 → bindArgs (PySem.W.fnOf x x params body scope .none kV doc pm an cdv ct) ⟨us, []⟩ = pure ([y].zip us)) :
    (∀ (s : Shared) (v : Value), BindsTo s fd ⟨[v], []⟩ [(y, v)]) ∧ ∀ base : Heap, FnOk P w K mg base CXn (k + 1) f fd [y] (spC K C) := by
  have b := FunD.bindsA (ps := [y]) F hb
  obtain ⟨oc, od, dV, kV, doc, pm, an, cdv, ct, osl, rfl, lk, hcd, _, _⟩ := F.ex
  subst hC
  exact ⟨fun s v => b s [v] rfl, fun base => fn_ok (Δ := ⟨N, fs, gsI nums, bl⟩) (M.env (cs base)) lk hcd S⟩
/-- the facts of the head -/
def faOf (gl : List Str) (nums : List (Str × Int)) (bl : List Str) : List He.Fa := gl.map He.Fa.glo ++ (nums.map (fun p => He.Fa.int p.1 p.2) ++ bl.map He.Fa.free)
theorem says_all {fa : List He.Fa} {fn : List He.DefD} (c : He.SaysD fa fn K) : ∀ f ∈ fa, f.ok K = true := fun f hf => by
  obtain ⟨i, e⟩ := List.getElem?_of_mem hf
  exact c.fact i e
theorem mo_of {h : Heap} {gl : List Str} {fn : List He.DefD} (X : K.In h) (G : h.Ns mainGlobals mg) (c : He.SaysD (faOf gl nums bl) fn K) : Mo mg nums bl :=
  ⟨fun p hp => He.int_ok X G (says_all c _ (List.mem_append_right _ (List.mem_append_left _ (List.mem_map.mpr ⟨p, hp, rfl⟩)))),
    fun b hb => He.free_ok X G (says_all c _ (List.mem_append_right _ (List.mem_append_right _ (List.mem_map.mpr ⟨b, hb, rfl⟩))))⟩
theorem glo_of {h : Heap} {gl : List Str} {fn : List He.DefD} (X : K.In h) (G : h.Ns mainGlobals mg) (c : He.SaysD (faOf gl nums bl) fn K) {x : Str} (hx : x ∈ gl) : mg x = some (.ref (He.ga K x)) :=
  He.glo_ok X G (says_all c _ (List.mem_append_left _ (List.mem_map.mpr ⟨x, hx, rfl⟩)))
end
/-- a script's integers -/
def ro (ns : List Int) : D := .ro (ns.map .int)
theorem script_ow {K : PySem.W.Frag} {H : Hp} {a : Addr} {ns : List Int} (hO : Only H) (hS : SqL K H a (ns.map V.int)) : OWs K H [.ref a] [ro ns] [] := by
  refine .cons (G1 := []) (G2 := []) (.ro ?_ (RTs.of_ints ns)) .nil
  rcases hS with (h | ⟨o, h⟩) | h
  · rcases hO a with e | ⟨o, xs, e⟩
    · rw [e] at h; cases h
    · rw [e] at h; cases h
  · exact .inl ⟨o, h⟩
  · exact .inr h
/-- the law's promise, from the interpreter's answer -/
theorem law_sp {K : PySem.W.Frag} {H : Hp} {a : Addr} {ns : List Int} {C : CT} {os : List (Option D)} (hO : Only H) (hS : SqL K H a (ns.map V.int)) (e : C [ro ns] = some (B true, os)) : spC K C [.ref a] H (fun v _ => v = .bl true) fun _ _ _ => False :=
  ⟨[ro ns], [], B true, os, script_ow hO hS, ND.nil, e, fun v H' G Gb pc => Rd.bl ⟨_, pc.ow⟩⟩
end PF

set_option Elab.async false
set_option linter.all false
set_option maxRecDepth 100000
/-! PF28: evaluating a def -/
namespace PF
open PySem PySem.Spec PyProof.Rows L2
section
variable {Γ : List CT} {q : Bool} {ρ ρ1 : List S}
/-! ### loops, by what stays true -/
theorem walkN_inv {α : Type} {st : α → List S} {w : Wk} {f : D → α → Option α} (I : Nat → α → Prop) (hs : ∀ i a, i < w.len → I i a → ∃ d b, w.at (st a) i = some d ∧ f d a = some b ∧ I (i + 1) b) (hok : ∀ a, I w.len a → w.ok (st a) = true) :
    ∀ (k : Nat) (a : α), k ≤ w.len → I (w.len - k) a → ∃ b, walkN st w f k a = some b ∧ I w.len b
  | 0, a, _, h => ⟨a, by simp only [walkN, hok a h, if_true], h⟩
  | k + 1, a, hk, h => by
    obtain ⟨d, b, h1, h2, h3⟩ := hs (w.len - (k + 1)) a (by omega) h
    have e : w.len - (k + 1) + 1 = w.len - k := by omega
    rw [e] at h3
    obtain ⟨c, h4, h5⟩ := walkN_inv I hs hok k b (by omega) h3
    exact ⟨c, by simp only [walkN, h1, h2, h4], h5⟩
theorem forN_inv {w : Wk} {f : D → List S → Option Out} (I : Nat → List S → Prop) (hs : ∀ i a, i < w.len → I i a → ∃ d b, w.at a i = some d ∧ f d a = some (.nx b) ∧ I (i + 1) b) (hok : ∀ a, I w.len a → w.ok a = true) :
    ∀ (k : Nat) (a : List S), k ≤ w.len → I (w.len - k) a → ∃ b, forN w f k a = some (.nx b) ∧ I w.len b
  | 0, a, _, h => ⟨a, by simp only [forN, hok a h, if_true], h⟩
  | k + 1, a, hk, h => by
    obtain ⟨d, b, h1, h2, h3⟩ := hs (w.len - (k + 1)) a (by omega) h
    have e : w.len - (k + 1) + 1 = w.len - k := by omega
    rw [e] at h3
    obtain ⟨c, h4, h5⟩ := forN_inv I hs hok k b (by omega) h3
    exact ⟨c, by simp only [forN, h1, h2, h4], h5⟩
/-- a comprehension whose turns change what they change -/
theorem ev_compI {elt : Ex} {tg : Tg} {kind : Nat} {src conds : List Ex} {rs : List R} {w : Wk} (e1 : evL Γ q src ρ = some (rs, ρ1)) (e2 : srcK ρ1 kind rs = some w) (hl : w.len ≤ LIM) (I : Nat → List D → List S → Prop) (h0 : I 0 [] (kill ρ1 tg.own))
    (hs : ∀ i acc ρ, i < w.len → I i acc ρ → ∃ d ρ2, w.at ρ i = some d ∧ bind w.isLent tg d (kill ρ tg.own) = some ρ2 ∧ ((∃ ρ3, evT Γ (q || w.isLent) conds ρ2 = some (false, ρ3) ∧ I (i + 1) acc (kill ρ3 tg.own)) ∨
      ∃ ρ3 r ρ4 x ρ5, evT Γ (q || w.isLent) conds ρ2 = some (true, ρ3) ∧ ev Γ (q || w.isLent) elt ρ3 = some (r, ρ4) ∧ own (q || w.isLent) ρ4 r = some (x, ρ5) ∧ I (i + 1) (acc ++ [x]) (kill ρ5 tg.own)))
    (hok : ∀ acc ρ, I w.len acc ρ → w.ok ρ = true) : ∃ ds ρ2, ev Γ q (.comp elt tg kind src conds) ρ = some (.rv (.l ds), ρ2) ∧ I w.len ds ρ2 := by
  simp only [ev, e1, e2, hl, if_true]
  generalize hf : (fun (d : D) (a : List D × List S) => _ : D → List D × List S → Option (List D × List S)) = f
  obtain ⟨⟨ds, ρ2⟩, h1, h2⟩ := walkN_inv (st := Prod.snd) (w := w) (f := f) (fun i a => I i a.1 a.2) (fun i a hi h => by
      obtain ⟨d, ρ2, h1, h2, h3⟩ := hs i a.1 a.2 hi h
      rcases h3 with ⟨ρ3, h4, h5⟩ | ⟨ρ3, r, ρ4, x, ρ5, h4, h5, h6, h7⟩
      · exact ⟨d, (a.1, kill ρ3 tg.own), h1, by rw [← hf]; simp only [h2, h4], h5⟩
      · exact ⟨d, (a.1 ++ [x], kill ρ5 tg.own), h1, by rw [← hf]; simp only [h2, h4, h5, h6], h7⟩) (fun a h => hok a.1 a.2 h) w.len ([], kill ρ1 tg.own) (Nat.le_refl _) (by rw [Nat.sub_self]; exact h0)
  exact ⟨ds, ρ2, by rw [h1], h2⟩
/-- one that changes nothing -/
theorem ev_compP {elt : Ex} {tg : Tg} {kind : Nat} {src conds : List Ex} {rs : List R} {w : Wk} {n : Nat} (g : Nat → Option D) (hn : w.len = n) (e1 : evL Γ q src ρ = some (rs, ρ1)) (e2 : srcK ρ1 kind rs = some w) (hl : n ≤ LIM)
    (hs : ∀ i, i < n → ∃ d ρ2, w.at (kill ρ1 tg.own) i = some d ∧ bind w.isLent tg d (kill (kill ρ1 tg.own) tg.own) = some ρ2 ∧ ((∃ ρ3, evT Γ (q || w.isLent) conds ρ2 = some (false, ρ3) ∧ g i = none ∧ kill ρ3 tg.own = kill ρ1 tg.own) ∨
      ∃ ρ3 r ρ4 x ρ5, evT Γ (q || w.isLent) conds ρ2 = some (true, ρ3) ∧ ev Γ (q || w.isLent) elt ρ3 = some (r, ρ4) ∧ own (q || w.isLent) ρ4 r = some (x, ρ5) ∧ g i = some x ∧ kill ρ5 tg.own = kill ρ1 tg.own))
    (hok : w.ok (kill ρ1 tg.own) = true) : ev Γ q (.comp elt tg kind src conds) ρ = some (.rv (.l ((List.range n).filterMap g)), kill ρ1 tg.own) := by
  subst hn
  obtain ⟨ds, ρ2, h1, h2, h3⟩ := ev_compI (elt := elt) (tg := tg) (conds := conds) e1 e2 hl (fun i acc ρ => acc = (List.range i).filterMap g ∧ ρ = kill ρ1 tg.own) ⟨rfl, rfl⟩ (fun i acc ρ' hi ⟨ha, hr⟩ => by
    subst ha hr
    obtain ⟨d, ρ2, h1, h2, h3⟩ := hs i hi
    refine ⟨d, ρ2, h1, h2, ?_⟩
    rcases h3 with ⟨ρ3, h4, h5, h6⟩ | ⟨ρ3, r, ρ4, x, ρ5, h4, h5, h6, h7, h8⟩
    · exact .inl ⟨ρ3, h4, by rw [List.range_succ, List.filterMap_append]; simp [h5], h6⟩
    · exact .inr ⟨ρ3, r, ρ4, x, ρ5, h4, h5, h6, by rw [List.range_succ, List.filterMap_append]; simp [h7], h8⟩) (fun acc ρ' ⟨_, hr⟩ => by rw [hr]; exact hok)
  rw [h1, h2, h3]
/-- a for, by what stays true -/
theorem run_forI {tg : Tg} {kind : Nat} {src : List Ex} {body : List St} {dead : List Nat} {rs : List R} {w : Wk} (e1 : evL Γ false src ρ = some (rs, ρ1)) (e2 : srcK ρ1 kind rs = some w) (hb : (!w.isLent && w.lives.all (fun r => !(tg.own ++ stsO body).contains r)) = true) (I : Nat → List S → Prop) (h0 : I 0 (kill ρ1 dead))
    (hs : ∀ i ρ, i < w.len → I i ρ → ∃ d ρ2 o ρ3, w.at ρ i = some d ∧ bind false tg d ρ = some ρ2 ∧ runs Γ body ρ2 = some o ∧ killO dead o = .nx ρ3 ∧ I (i + 1) ρ3) (hok : ∀ ρ, I w.len ρ → w.ok ρ = true) : ∃ ρ2, run Γ (.for_ tg kind src body dead) ρ = some (.nx ρ2) ∧ I w.len ρ2 := by
  simp only [run, e1, e2, hb, if_true]
  generalize hf : (fun (d : D) (ρ : List S) => _ : D → List S → Option Out) = f
  exact forN_inv (w := w) (f := f) I (fun i a hi h => by
      obtain ⟨d, ρ2, o, ρ3, h1, h2, h3, h4, h5⟩ := hs i a hi h
      exact ⟨d, ρ3, h1, by rw [← hf]; simp only [h2, h3, Option.map_some, h4], h5⟩) hok w.len (kill ρ1 dead) (Nat.le_refl _) (by rw [Nat.sub_self]; exact h0)
/-- a walk's items, where they are fixed -/
def itemsW : Wk → Option (List D)
  | .one (.fix ts) => some (ts.map .p)
  | .enum (.fix ts) => some (ts.zipIdx.map fun z => .p (.tup [.int z.2, z.1]))
  | .zip (.fix ts) (.fix us) => some ((ts.zip us).map fun z => .p (.tup [z.1, z.2]))
  | .rng lo n => some ((List.range n).map fun (i : Nat) => .p (.int (lo + i)))
  | .lent ds => some ds
  | _ => none
theorem itemsW_ok {w : Wk} {ds : List D} (h : itemsW w = some ds) : w.len = ds.length ∧ ∀ ρ, w.ok ρ = true ∧ ∀ i : Nat, w.at ρ i = ds[i]? := by
  unfold itemsW at h
  split at h <;> cases h
  · refine ⟨by simp [Wk.len, Sq.len], fun ρ => ⟨rfl, fun i => ?_⟩⟩
    simp only [Wk.at, Sq.at, List.getElem?_map]
  · refine ⟨by simp [Wk.len, Sq.len], fun ρ => ⟨rfl, fun i => ?_⟩⟩
    simp only [Wk.at, Sq.at, List.getElem?_map, List.getElem?_zipIdx]
    rename_i ts
    cases ts[i]? <;> simp
  · rename_i ts us
    refine ⟨by simp [Wk.len, Sq.len], fun ρ => ⟨rfl, fun i => ?_⟩⟩
    simp only [Wk.at, Sq.at, Sq.ok, List.getElem?_map, List.getElem?_zip_eq_some, Bool.and_self, if_true]
    cases e1 : ts[i]? with
    | none => 
      have : (ts.zip us)[i]? = none := by
        rw [List.getElem?_eq_none_iff] at e1 ⊢
        rw [List.length_zip]; omega
      rw [this]; rfl
    | some t =>
      cases e2 : us[i]? with
      | none =>
        have : (ts.zip us)[i]? = none := by
          rw [List.getElem?_eq_none_iff] at e2 ⊢
          rw [List.length_zip]; omega
        rw [this]; rfl
      | some u =>
        have : (ts.zip us)[i]? = some (t, u) := List.getElem?_zip_eq_some.mpr ⟨e1, e2⟩
        rw [this]; rfl
  · rename_i lo n
    refine ⟨by simp [Wk.len], fun ρ => ⟨rfl, fun i => ?_⟩⟩
    simp only [Wk.at, List.getElem?_map]
    by_cases hi : i < n
    · rw [if_pos hi, List.getElem?_range hi]; rfl
    · rw [if_neg hi, List.getElem?_eq_none (by simpa using hi)]; rfl
  · exact ⟨rfl, fun ρ => ⟨rfl, fun i => rfl⟩⟩
/-- a comprehension over fixed items that changes nothing -/
theorem ev_compF {elt : Ex} {tg : Tg} {kind : Nat} {src conds : List Ex} {rs : List R} {w : Wk} {ds : List D} (g : D → Option D) (hw : itemsW w = some ds) (e1 : evL Γ q src ρ = some (rs, ρ1)) (e2 : srcK ρ1 kind rs = some w) (hl : ds.length ≤ LIM)
    (hs : ∀ d ∈ ds, ∃ ρ2, bind w.isLent tg d (kill (kill ρ1 tg.own) tg.own) = some ρ2 ∧ ((∃ ρ3, evT Γ (q || w.isLent) conds ρ2 = some (false, ρ3) ∧ g d = none ∧ kill ρ3 tg.own = kill ρ1 tg.own) ∨
      ∃ ρ3 r ρ4 x ρ5, evT Γ (q || w.isLent) conds ρ2 = some (true, ρ3) ∧ ev Γ (q || w.isLent) elt ρ3 = some (r, ρ4) ∧ own (q || w.isLent) ρ4 r = some (x, ρ5) ∧ g d = some x ∧ kill ρ5 tg.own = kill ρ1 tg.own)) :
    ev Γ q (.comp elt tg kind src conds) ρ = some (.rv (.l (ds.filterMap g)), kill ρ1 tg.own) := by
  obtain ⟨h1, h2⟩ := itemsW_ok hw
  rw [ev_compP (elt := elt) (tg := tg) (conds := conds) (fun i => ds[i]?.bind g) h1 e1 e2 hl (fun i hi => ?_) (h2 _).1]
  · congr 3
    have : ds.filterMap g = ((List.range ds.length).filterMap fun i => ds[i]?).filterMap g := by
      congr 1
      have : ∀ l : List D, l = (List.range l.length).filterMap fun i => l[i]? := fun l => by
        induction l with
        | nil => rfl
        | cons a l ih =>
          rw [List.length_cons, List.range_succ_eq_map, List.filterMap_cons, List.filterMap_map]
          simp only [List.getElem?_cons_zero, Function.comp_def, List.getElem?_cons_succ]
          rw [← ih]
      exact this ds
    rw [this, List.filterMap_filterMap]
  · obtain ⟨ρ2, h3, h4⟩ := hs ds[i] (List.getElem_mem hi)
    refine ⟨ds[i], ρ2, by rw [(h2 _).2, List.getElem?_eq_getElem hi], h3, ?_⟩
    rcases h4 with ⟨ρ3, k1, k2, k3⟩ | ⟨ρ3, r, ρ4, x, ρ5, k1, k2, k3, k4, k5⟩
    · exact .inl ⟨ρ3, k1, by rw [List.getElem?_eq_getElem hi]; exact k2, k3⟩
    · exact .inr ⟨ρ3, r, ρ4, x, ρ5, k1, k2, k3, by rw [List.getElem?_eq_getElem hi]; exact k4, k5⟩
theorem kill_kill {ρ : List S} {is : List Nat} : kill (kill ρ is) is = kill ρ is := kill_idem fun j hj => kill_no ρ hj
/-- [g(a) for a in xs] -/
theorem ev_compM {α : Type} (xs : List α) (enc g : α → D) {elt : Ex} {tg : Tg} {kind : Nat} {src : List Ex} {rs : List R} {w : Wk} {ρ0 : List S} (hw : itemsW w = some (xs.map enc)) (hn : w.isLent = false) (e1 : evL Γ q src ρ = some (rs, ρ1)) (e2 : srcK ρ1 kind rs = some w) (hl : xs.length ≤ LIM) (hρ : kill ρ1 tg.own = ρ0)
    (hs : ∀ a ∈ xs, ∃ ρ2 r ρ4 ρ5, bind false tg (enc a) ρ0 = some ρ2 ∧ ev Γ q elt ρ2 = some (r, ρ4) ∧ own q ρ4 r = some (g a, ρ5) ∧ kill ρ5 tg.own = ρ0) :
    ev Γ q (.comp elt tg kind src []) ρ = some (.rv (.l (xs.map g)), ρ0) := by
  subst hρ
  obtain ⟨h1, h2⟩ := itemsW_ok hw
  rw [List.length_map] at h1
  rw [ev_compP (elt := elt) (tg := tg) (conds := []) (fun i => xs[i]?.map g) h1 e1 e2 hl (fun i hi => ?_) (h2 _).1]
  · congr 3
    have : ∀ l : List α, ((List.range l.length).filterMap fun i => l[i]?.map g) = l.map g := fun l => by
      induction l with
      | nil => rfl
      | cons a l ih =>
        rw [List.length_cons, List.range_succ_eq_map, List.filterMap_cons, List.filterMap_map]
        simp only [List.getElem?_cons_zero, Option.map_some, Function.comp_def, List.getElem?_cons_succ, List.map_cons]
        rw [ih]
    exact congrArg D.l (this xs)
  · obtain ⟨ρ2, r, ρ4, ρ5, k1, k2, k3, k4⟩ := hs xs[i] (List.getElem_mem hi)
    refine ⟨enc xs[i], ρ2, by rw [(h2 _).2, List.getElem?_map, List.getElem?_eq_getElem hi]; rfl, by rw [hn, kill_kill]; exact k1, .inr ⟨ρ2, r, ρ4, g xs[i], ρ5, rfl, ?_, ?_, by rw [List.getElem?_eq_getElem hi]; rfl, k4⟩⟩
    · rw [hn, Bool.or_false]; exact k2
    · rw [hn, Bool.or_false]; exact k3
/-- [g(a) for a in xs if p(a)] -/
theorem ev_compC {α : Type} (xs : List α) (enc g : α → D) (p : α → Bool) {elt c : Ex} {tg : Tg} {kind : Nat} {src : List Ex} {rs : List R} {w : Wk} {ρ0 : List S} (hw : itemsW w = some (xs.map enc)) (hn : w.isLent = false) (e1 : evL Γ q src ρ = some (rs, ρ1)) (e2 : srcK ρ1 kind rs = some w) (hl : xs.length ≤ LIM) (hρ : kill ρ1 tg.own = ρ0)
    (hs : ∀ a ∈ xs, ∃ ρ2 rc ρ3, bind false tg (enc a) ρ0 = some ρ2 ∧ ev Γ q c ρ2 = some (rc, ρ3) ∧ truR ρ3 rc = some (p a) ∧ (p a = false → kill ρ3 tg.own = ρ0) ∧ (p a = true → ∃ r ρ4 ρ5, ev Γ q elt ρ3 = some (r, ρ4) ∧ own q ρ4 r = some (g a, ρ5) ∧ kill ρ5 tg.own = ρ0)) :
    ev Γ q (.comp elt tg kind src [c]) ρ = some (.rv (.l ((xs.filter p).map g)), ρ0) := by
  subst hρ
  obtain ⟨h1, h2⟩ := itemsW_ok hw
  rw [List.length_map] at h1
  rw [ev_compP (elt := elt) (tg := tg) (conds := [c]) (fun i => xs[i]?.bind fun a => if p a then some (g a) else none) h1 e1 e2 hl (fun i hi => ?_) (h2 _).1]
  · congr 3
    have : ∀ l : List α, ((List.range l.length).filterMap fun i => l[i]?.bind fun a => if p a then some (g a) else none) = (l.filter p).map g := fun l => by
      induction l with
      | nil => rfl
      | cons a l ih =>
        rw [List.length_cons, List.range_succ_eq_map, List.filterMap_cons, List.filterMap_map, List.filter_cons]
        simp only [List.getElem?_cons_zero, Option.bind_some, Function.comp_def, List.getElem?_cons_succ]
        rw [ih]
        cases p a <;> simp
    exact congrArg D.l (this xs)
  · obtain ⟨ρ2, rc, ρ3, k1, k2, k3, k4, k5⟩ := hs xs[i] (List.getElem_mem hi)
    refine ⟨enc xs[i], ρ2, by rw [(h2 _).2, List.getElem?_map, List.getElem?_eq_getElem hi]; rfl, by rw [hn, kill_kill]; exact k1, ?_⟩
    have et : ∀ b, p xs[i] = b → evT Γ (q || w.isLent) [c] ρ2 = some (b, ρ3) := fun b hb => by
      rw [hn, Bool.or_false]
      simp only [evT, k2, k3, hb]
    cases hp : p xs[i] with
    | false => exact .inl ⟨ρ3, et _ hp, by rw [List.getElem?_eq_getElem hi]; simp [hp], k4 hp⟩
    | true =>
      obtain ⟨r, ρ4, ρ5, k6, k7, k8⟩ := k5 hp
      refine .inr ⟨ρ3, r, ρ4, g xs[i], ρ5, et _ hp, ?_, ?_, by rw [List.getElem?_eq_getElem hi]; simp [hp], k8⟩
      · rw [hn, Bool.or_false]; exact k6
      · rw [hn, Bool.or_false]; exact k7
end
section
variable {Γ : List CT} {q : Bool} {ρ ρ1 : List S}
/-- a for whose states are told -/
theorem run_forD {tg : Tg} {kind : Nat} {src : List Ex} {body : List St} {dead : List Nat} {rs : List R} {w : Wk} {n : Nat} (s : Nat → List S) (hn : w.len = n) (e1 : evL Γ false src ρ = some (rs, ρ1)) (e2 : srcK ρ1 kind rs = some w) (hb : (!w.isLent && w.lives.all (fun r => !(tg.own ++ stsO body).contains r)) = true) (h0 : kill ρ1 dead = s 0)
    (hs : ∀ i, i < n → ∃ d ρ2 o, w.at (s i) i = some d ∧ bind false tg d (s i) = some ρ2 ∧ runs Γ body ρ2 = some o ∧ killO dead o = .nx (s (i + 1))) (hok : w.ok (s n) = true) : run Γ (.for_ tg kind src body dead) ρ = some (.nx (s n)) := by
  subst hn
  obtain ⟨ρ2, h1, h2⟩ := run_forI (body := body) e1 e2 hb (fun i ρ => ρ = s i) h0 (fun i ρ hi e => by
    subst e
    obtain ⟨d, ρ2, o, h1, h2, h3, h4⟩ := hs i hi
    exact ⟨d, ρ2, o, _, h1, h2, h3, h4, rfl⟩) (fun ρ e => by rw [e]; exact hok)
  rw [h1, h2]
end
theorem ev_compN {Γ : List CT} {q : Bool} {ρ ρ1 : List S} {α : Type} (xs : List α) (enc g : α → D) {elt : Ex} {tg : Tg} {kind : Nat} {src : List Ex} {rs : List R} {w : Wk} {ρ0 : List S} (hw : itemsW w = some (xs.map enc)) (hn : w.isLent = false) (e1 : evL Γ q src ρ = some (rs, ρ1)) (e2 : srcK ρ1 kind rs = some w) (hl : xs.length ≤ LIM) (hρ : kill ρ1 tg.own = ρ0)
    (hs : ∀ a ∈ xs, ∃ ρ2, bind false tg (enc a) ρ0 = some ρ2 ∧ kill ρ2 tg.own = ρ0 ∧ ev Γ q elt ρ2 = some (.rv (g a), ρ2)) : ev Γ q (.comp elt tg kind src []) ρ = some (.rv (.l (xs.map g)), ρ0) :=
  ev_compM xs enc g hw hn e1 e2 hl hρ fun a ha => by
    obtain ⟨ρ2, h1, h2, h3⟩ := hs a ha
    exact ⟨ρ2, _, ρ2, ρ2, h1, h3, rfl, h2⟩
theorem atI_nat {α : Type} {xs : List α} {i : Nat} (h : i < xs.length) : L2.atI xs (i : Int) = xs[i]? := by
  unfold L2.atI L2.ixN
  rw [if_pos (Int.natCast_nonneg i), if_pos (by omega)]
  simp
theorem ixN_nat {n i : Nat} (h : i < n) : L2.ixN n (i : Int) = some i := by
  unfold L2.ixN
  rw [if_pos (Int.natCast_nonneg i), if_pos (by omega)]
  simp
theorem blsOf_map {α : Type} (l : List α) (f : α → Bool) : blsOf (l.map fun x => T.bl (f x)) = some (l.map f) := by
  induction l with
  | nil => rfl
  | cons a l ih => simp [blsOf, ih]
theorem intsOf_map {α : Type} (l : List α) (f : α → Int) : intsOf (l.map fun x => T.int (f x)) = some (l.map f) := by
  induction l with
  | nil => rfl
  | cons a l ih => simp [intsOf, ih]
theorem pures_mapP {α : Type} (l : List α) (f : α → T) : pures (l.map fun x => D.p (f x)) = some (l.map f) := by
  induction l with
  | nil => rfl
  | cons a l ih => simp [pures, ih]
/-! ### equations that are rewritten by, not unfolded -/
theorem ev_1 : type_of% @ev.eq_1 := by intros; rw [ev.eq_1]
theorem ev_2 : type_of% @ev.eq_2 := by intros; rw [ev.eq_2]
theorem ev_3 : type_of% @ev.eq_3 := by intros; rw [ev.eq_3]
theorem ev_4 : type_of% @ev.eq_4 := by intros; rw [ev.eq_4]
theorem ev_5 : type_of% @ev.eq_5 := by intros; rw [ev.eq_5]
theorem ev_6 : type_of% @ev.eq_6 := by intros; rw [ev.eq_6]
theorem ev_7 : type_of% @ev.eq_7 := by intros; rw [ev.eq_7]
theorem ev_8 : type_of% @ev.eq_8 := by intros; rw [ev.eq_8]
theorem ev_9 : type_of% @ev.eq_9 := by intros; rw [ev.eq_9]
theorem ev_10 : type_of% @ev.eq_10 := by intros; rw [ev.eq_10]
theorem ev_11 : type_of% @ev.eq_11 := by intros; rw [ev.eq_11]
theorem ev_12 : type_of% @ev.eq_12 := by intros; rw [ev.eq_12]
theorem ev_13 : type_of% @ev.eq_13 := by intros; rw [ev.eq_13]
theorem ev_15 : type_of% @ev.eq_15 := by intros; rw [ev.eq_15]
theorem evL_1 : type_of% @evL.eq_1 := by intros; rw [evL.eq_1]
theorem evL_2 : type_of% @evL.eq_2 := by intros; rw [evL.eq_2]
theorem evT_1 : type_of% @evT.eq_1 := by intros; rw [evT.eq_1]
theorem evT_2 : type_of% @evT.eq_2 := by intros; rw [evT.eq_2]
theorem run_1 : type_of% @PF.run.eq_1 := by intros; rw [PF.run.eq_1]
theorem run_2 : type_of% @PF.run.eq_2 := by intros; rw [PF.run.eq_2]
theorem run_3 : type_of% @PF.run.eq_3 := by intros; rw [PF.run.eq_3]
theorem run_4 : type_of% @PF.run.eq_4 := by intros; rw [PF.run.eq_4]
theorem run_5 : type_of% @PF.run.eq_5 := by intros; rw [PF.run.eq_5]
theorem run_6 : type_of% @PF.run.eq_6 := by intros; rw [PF.run.eq_6]
theorem run_7 : type_of% @PF.run.eq_7 := by intros; rw [PF.run.eq_7]
theorem run_8 : type_of% @PF.run.eq_8 := by intros; rw [PF.run.eq_8]
theorem run_9 : type_of% @PF.run.eq_9 := by intros; rw [PF.run.eq_9]
theorem run_12 : type_of% @PF.run.eq_12 := by intros; rw [PF.run.eq_12]
theorem run_13 : type_of% @PF.run.eq_13 := by intros; rw [PF.run.eq_13]
theorem run_14 : type_of% @PF.run.eq_14 := by intros; rw [PF.run.eq_14]
theorem run_15 : type_of% @PF.run.eq_15 := by intros; rw [PF.run.eq_15]
theorem run_16 : type_of% @PF.run.eq_16 := by intros; rw [PF.run.eq_16]
theorem run_17 : type_of% @PF.run.eq_17 := by intros; rw [PF.run.eq_17]
theorem runs_1 : type_of% @runs.eq_1 := by intros; rw [runs.eq_1]
theorem runs_2 : type_of% @runs.eq_2 := by intros; rw [runs.eq_2]
theorem evOwn_1 : type_of% @evOwn.eq_1 := by intros; rw [evOwn.eq_1]
theorem evTest_1 : type_of% @evTest.eq_1 := by intros; rw [evTest.eq_1]
end PF

set_option Elab.async false
set_option linter.all false
namespace PF
theorem mk_rt {Γ : List CT} {n np : Nat} {body : List St} {ds : List D} {ρ0 ρ : List S} {d : D} {st : List Nat} {l : List (Option D)} (h1 : ds.length = np) (h0 : startS n ds = ρ0) (h2 : runs Γ body ρ0 = some (.rt d ρ)) (h3 : stsO body = st) (h4 : left st 0 ds ρ = l) : mk Γ n np body ds = some (d, l) := by
  subst h0 h3 h4
  rw [mk, if_pos h1, h2]
theorem mk_nx {Γ : List CT} {n np : Nat} {body : List St} {ds : List D} {ρ0 ρ : List S} {st : List Nat} {l : List (Option D)} (h1 : ds.length = np) (h0 : startS n ds = ρ0) (h2 : runs Γ body ρ0 = some (.nx ρ)) (h3 : stsO body = st) (h4 : left st 0 ds ρ = l) : mk Γ n np body ds = some (.p .non, l) := by
  subst h0 h3 h4
  rw [mk, if_pos h1, h2]
theorem runs_nx {Γ : List CT} {s : St} {r : List St} {ρ ρ1 : List S} {R} (h : run Γ s ρ = some (.nx ρ1)) (h2 : runs Γ r ρ1 = R) : runs Γ (s :: r) ρ = R := by
  rw [runs_2, h]; exact h2
theorem runs_rt {Γ : List CT} {s : St} {r : List St} {ρ ρ1 : List S} {d : D} (h : run Γ s ρ = some (.rt d ρ1)) : runs Γ (s :: r) ρ = some (.rt d ρ1) := by
  rw [runs_2, h]
theorem runs_one {Γ : List CT} {s : St} {ρ : List S} {R} (h : run Γ s ρ = R) : runs Γ [s] ρ = R := by
  rw [runs_2, h]
  cases R with
  | none => rfl
  | some o => cases o <;> simp [runs_1]
theorem runs_0 {Γ : List CT} {ρ : List S} : runs Γ [] ρ = some (.nx ρ) := runs_1 ..
theorem run_ite_t {Γ : List CT} {c : Ex} {a b : List St} {ρ ρ1 : List S} {R} (h : evTest Γ c ρ = some (true, ρ1)) (h2 : runs Γ a ρ1 = R) : run Γ (.ite c a b) ρ = R := by
  rw [run_9, h]; exact h2
theorem run_ite_f {Γ : List CT} {c : Ex} {a b : List St} {ρ ρ1 : List S} {R} (h : evTest Γ c ρ = some (false, ρ1)) (h2 : runs Γ b ρ1 = R) : run Γ (.ite c a b) ρ = R := by
  rw [run_9, h]; exact h2
theorem run_asg {Γ : List CT} {i : Nat} {e : Ex} {ρ ρ1 : List S} {d : D} (h : evOwn Γ e ρ = some (d, ρ1)) : run Γ (.asg i e) ρ = some (.nx (put ρ1 i (.val d))) := by
  rw [run_1, h]
theorem run_ret {Γ : List CT} {e : Ex} {ρ ρ1 : List S} {d : D} (h : evOwn Γ e ρ = some (d, ρ1)) : run Γ (.ret e) ρ = some (.rt d ρ1) := by
  rw [run_12, h]
theorem own_p {Γ : List CT} {i : Nat} {ρ : List S} {t : T} (h : look ρ i = .val (.p t)) : evOwn Γ (.nm i) ρ = some (.p t, ρ) := by
  rw [evOwn_1, ev_1, h]; rfl
theorem own_l {Γ : List CT} {i : Nat} {ρ : List S} {ds : List D} (h : look ρ i = .val (.l ds)) : evOwn Γ (.nm i) ρ = some (.l ds, put ρ i .no) := by
  rw [evOwn_1, ev_1, h]
  simp only [PF.own, if_false, Bool.false_eq_true, h]
theorem beq_dec (a b : Int) : (a == b) = decide (a = b) := by
  rw [Bool.eq_iff_iff]; simp
section
variable {Γ : List CT} {q : Bool} {ρ ρ1 ρ2 : List S} {o : Op} {a b e : Ex} {x y d : D} {k k2 : Bool}
theorem e_un (h1 : ev Γ q a ρ = some (.rv x, ρ1)) (h3 : opD o [x] = some d) : ev Γ q (.op o [a]) ρ = some (.rv d, ρ1) := by
  rw [ev_3, evL_2, h1]
  simp only [evL_1, vals, valR, h3]
theorem e_un_bv (h1 : ev Γ q a ρ = some (.bv x, ρ1)) (h3 : opD o [x] = some d) : ev Γ q (.op o [a]) ρ = some (.rv d, ρ1) := by
  rw [ev_3, evL_2, h1]
  simp only [evL_1, vals, valR, h3]
theorem e_un_nm {i : Nat} (h1 : ev Γ q a ρ = some (.nm i, ρ1)) (h2 : look ρ1 i = .val x) (h3 : opD o [x] = some d) : ev Γ q (.op o [a]) ρ = some (.rv d, ρ1) := by
  rw [ev_3, evL_2, h1]
  simp only [evL_1, vals, valR, h2, h3]
theorem e_bin (h1 : ev Γ q a ρ = some (.rv x, ρ1)) (h2 : ev Γ q b ρ1 = some (.rv y, ρ2)) (h3 : opD o [x, y] = some d) : ev Γ q (.op o [a, b]) ρ = some (.rv d, ρ2) := by
  rw [ev_3, evL_2, h1]
  simp only [lent, Bool.or_false, evL_2, h2, evL_1, vals, valR, h3]
theorem e_cst {t : T} : ev Γ q (.cst t) ρ = some (.rv (.p t), ρ) := ev_2 ..
theorem e_nm {i : Nat} {t : T} (h : look ρ i = .val (.p t)) : ev Γ q (.nm i) ρ = some (.rv (.p t), ρ) := by
  rw [ev_1, h]
theorem e_nml {i : Nat} {ds : List D} (h : look ρ i = .val (.l ds)) : ev Γ q (.nm i) ρ = some (.nm i, ρ) := by
  rw [ev_1, h]
theorem o_rv (h : ev Γ false e ρ = some (.rv d, ρ1)) : evOwn Γ e ρ = some (d, ρ1) := by
  rw [evOwn_1, h]; rfl
theorem t_rv (h : ev Γ false e ρ = some (.rv (.p (.bl k)), ρ1)) : evTest Γ e ρ = some (k, ρ1) := by
  rw [evTest_1, h]; rfl
theorem e_andf (h1 : ev Γ q a ρ = some (.rv (.p (.bl false)), ρ1)) : ev Γ q (.and_ a b) ρ = some (.rv (.p (.bl false)), ρ1) := by
  rw [show ev Γ q (.and_ a b) ρ = _ from ev_9 .., h1]; rfl
theorem e_andt {R} (h1 : ev Γ q a ρ = some (.rv (.p (.bl true)), ρ1)) (h2 : ev Γ q b ρ1 = R) : ev Γ q (.and_ a b) ρ = R := by
  rw [show ev Γ q (.and_ a b) ρ = _ from ev_9 .., h1]; exact h2
theorem e_ort (h1 : ev Γ q a ρ = some (.rv (.p (.bl true)), ρ1)) : ev Γ q (.or_ a b) ρ = some (.rv (.p (.bl true)), ρ1) := by
  rw [show ev Γ q (.or_ a b) ρ = _ from ev_10 .., h1]; rfl
theorem e_orf {R} (h1 : ev Γ q a ρ = some (.rv (.p (.bl false)), ρ1)) (h2 : ev Γ q b ρ1 = R) : ev Γ q (.or_ a b) ρ = R := by
  rw [show ev Γ q (.or_ a b) ρ = _ from ev_10 .., h1]; exact h2
theorem e_not (h1 : ev Γ q a ρ = some (.rv (.p (.bl k)), ρ1)) : ev Γ q (.not_ a) ρ = some (.rv (.p (.bl !k)), ρ1) := by
  rw [show ev Γ q (.not_ a) ρ = _ from ev_11 .., h1]; rfl
theorem e_ift {R} {c : Ex} (h1 : ev Γ q c ρ = some (.rv (.p (.bl true)), ρ1)) (h2 : ev Γ q a ρ1 = R) : ev Γ q (.ifx c a b) ρ = R := by
  rw [show ev Γ q (.ifx c a b) ρ = _ from ev_12 .., h1]; exact h2
theorem e_iff {R} {c : Ex} (h1 : ev Γ q c ρ = some (.rv (.p (.bl false)), ρ1)) (h2 : ev Γ q b ρ1 = R) : ev Γ q (.ifx c a b) ρ = R := by
  rw [show ev Γ q (.ifx c a b) ρ = _ from ev_12 .., h1]; exact h2
theorem r_asg {i : Nat} (h : ev Γ false e ρ = some (.rv d, ρ1)) : run Γ (.asg i e) ρ = some (.nx (put ρ1 i (.val d))) := run_asg (o_rv h)
theorem r_ret (h : ev Γ false e ρ = some (.rv d, ρ1)) : run Γ (.ret e) ρ = some (.rt d ρ1) := run_ret (o_rv h)
end
section
variable {Γ : List CT} {q : Bool} {ρ ρ1 ρ2 : List S} {e : Ex} {es : List Ex} {d : D} {ds : List D} {rs : List R} {os : List (Option D)} {c : CT}
theorem a_nil : evL Γ q [] ρ = some ([], ρ) := evL_1 ..
theorem a_rv (h : ev Γ q e ρ = some (.rv d, ρ1)) (h2 : evL Γ q es ρ1 = some (rs, ρ2)) : evL Γ q (e :: es) ρ = some (.rv d :: rs, ρ2) := by
  rw [evL_2, h]
  simp only [lent, Bool.or_false, h2]
theorem a_nm {i : Nat} (h : ev Γ q e ρ = some (.nm i, ρ1)) (h2 : evL Γ q es ρ1 = some (rs, ρ2)) : evL Γ q (e :: es) ρ = some (.nm i :: rs, ρ2) := by
  rw [evL_2, h]
  simp only [lent, Bool.or_false, h2]
theorem vals_rv : ∀ ds : List D, vals ρ (ds.map .rv) = some ds
  | [] => rfl
  | d :: ds => by simp [vals, valR, vals_rv ds]
theorem nms_rv : ∀ ds : List D, nms (ds.map .rv) = []
  | [] => rfl
  | _ :: ds => nms_rv ds
theorem back_rv : ∀ (ds : List D) (os : List (Option D)), os.length = ds.length → back ρ (ds.map .rv) os = some ρ
  | [], _, _ => rfl
  | _ :: ds, o :: os, h => by simpa [back] using back_rv ds os (by simpa using h)
  | _ :: _, [], h => by simp at h
theorem e_call {k : Nat} (h1 : evL Γ q es ρ = some (ds.map .rv, ρ1)) (h2 : Γ[k]? = some c) (h3 : c ds = some (d, os)) (h4 : os.length = ds.length) : ev Γ q (.call k es) ρ = some (.rv d, ρ1) := by
  rw [ev_15, h1, h2]
  simp only [callD, vals_rv, nms_rv, nodupB, List.isEmpty_nil, Bool.or_true, Bool.and_true, if_true, h3, back_rv ds os h4, Option.map_some]
theorem e_callh {k i : Nat} {d0 h' : D} (h1 : evL Γ false es ρ = some (.nm i :: ds.map .rv, ρ1)) (hl : look ρ1 i = .val d0) (h2 : Γ[k]? = some c) (h3 : c (d0 :: ds) = some (d, some h' :: os)) (h4 : os.length = ds.length) : ev Γ false (.call k es) ρ = some (.rv d, put ρ1 i (.val h')) := by
  rw [ev_15, h1, h2]
  simp only [callD, vals, valR, hl, vals_rv, nms, nms_rv, nodupB, List.contains_nil, Bool.not_false, Bool.true_or, Bool.and_true, if_true, h3, back, back_rv ds os h4, Option.map_some]
end
end PF

set_option Elab.async false
set_option linter.all false
set_option maxRecDepth 100000
set_option maxHeartbeats 0
namespace K63
open PySem PySem.Spec PyProof.Rows L2 PF
/-! ### the text, def by def -/
abbrev top (i : Nat) : Stmt := PySem.Challenge.pw_farhouse_k63_whole_tables_that_fit_in_ot.main.body.getD i (.Pass ⟨0, 0, 0, 0⟩)
def nums : List (Str × Int) := [("MOST_PLACES", 7), ("MOST_FAR", 1000)]
def bl : List Str := ["len", "all", "any", "abs", "int", "tuple", "list", "sorted", "isinstance", "range", "enumerate", "zip", "bool"]
def gl : List Str := ["_law_hand", "_law_draw", "_law_raw", "is_sized", "is_integer", "is_within", "is_table", "check_table", "is_lot", "check_lot", "raw_part", "part", "are_all", "raw_renamed", "renamed", "_law_any", "_law_names", "_law_fits", "check_both", "all_fits", "fits_count", "fits_in", "all_names", "keepers", "law"]

abbrev N__law_hand : List Str := ["script", "cells", "cell"]
abbrev f__law_hand : List Str := []
abbrev e__law_hand : List (Nat × List Nat) := []
def b__law_hand : List PF.St := [.asg 1 (.comp (.op .abs [(.op .int [(.nm 2)])]) (.one 2) 0 [(.op (.slice false true) [(.nm 0), (.cst (.int 63))])] []), .ret (.lst [(.nm 1), (.cst (.int 0)), (.cst (.int 0)), (.op .add [(.cst (.int 61)), (.op .mul [(.cst (.int 7)), (.op .len [(.nm 1)])])]), (.cst (.int 0))])]
def C__law_hand : CT := mk [] 3 1 b__law_hand
abbrev s__law_hand : Stmt := top 29
def d__law_hand : He.DefD := ⟨("_law_hand", none), "_law_hand", "_law_hand", defArgs s__law_hand, defBody s__law_hand, defScope s__law_hand, [], []⟩
theorem S__law_hand : FnScope N__law_hand ["script"] (defScope s__law_hand) := ⟨rfl, rfl, rfl, by decide +kernel, rfl, by decide +kernel, by decide +kernel⟩
theorem r__law_hand : (defBody s__law_hand).map (stripS ⟨N__law_hand, f__law_hand, gsI nums, bl⟩ e__law_hand 60 60 (defScope s__law_hand)) = b__law_hand := by kernel_rfl

abbrev N__law_draw : List Str := ["hand", "many", "number", "cell", "digit"]
abbrev f__law_draw : List Str := []
abbrev e__law_draw : List (Nat × List Nat) := []
def b__law_draw : List PF.St := [.ite (.and_ (.op .eq [(.idx (.nm 0) (.cst (.int 2))), (.cst (.int 0))]) (.op .lt [(.idx (.nm 0) (.cst (.int 1))), (.op .len [(.idx (.nm 0) (.cst (.int 0)))])])) [.asg 3 (.idx (.idx (.nm 0) (.cst (.int 0))) (.idx (.nm 0) (.cst (.int 1)))), .asg1 (.s1 0 (.cst (.int 1))) (.op .add [(.idx (.nm 0) (.cst (.int 1))), (.cst (.int 1))]), .asg1 (.s1 0 (.cst (.int 3))) (.op .mod [(.op .int [(.op .add [(.op .add [(.op .mul [(.idx (.nm 0) (.cst (.int 3))), (.cst (.int 69621))]), (.op .mul [(.nm 3), (.cst (.int 40692))])]), (.cst (.int 31))])]), (.cst (.int 2147483629))]), .ite (.op .ge [(.nm 3), (.op .pow [(.cst (.int 10)), (.cst (.int 18))])]) [.asg1 (.s1 0 (.cst (.int 2))) (.nm 3)] []] [], .ite (.op .gt [(.idx (.nm 0) (.cst (.int 2))), (.cst (.int 0))]) [.asg 4 (.op .mod [(.op .int [(.idx (.nm 0) (.cst (.int 2)))]), (.nm 1)]), .asg1 (.s1 0 (.cst (.int 2))) (.op .fdiv [(.idx (.nm 0) (.cst (.int 2))), (.nm 1)]), .ret (.nm 4)] [], .asg1 (.s1 0 (.cst (.int 4))) (.op .add [(.idx (.nm 0) (.cst (.int 4))), (.cst (.int 1))]), .asg 2 (.op .mod [(.op .int [(.op .mul [(.op .int [(.op .add [(.idx (.nm 0) (.cst (.int 3))), (.op .mul [(.cst (.int 7919)), (.idx (.nm 0) (.cst (.int 4)))])])]), (.cst (.int 48271))])]), (.cst (.int 2147483647))]), .asg 2 (.op .mod [(.op .int [(.op .mul [(.nm 2), (.op .add [(.op .fdiv [(.nm 2), (.cst (.int 1009))]), (.cst (.int 69621))])])]), (.cst (.int 2147483647))]), .asg 2 (.op .mod [(.op .int [(.op .mul [(.nm 2), (.op .add [(.op .fdiv [(.nm 2), (.cst (.int 2003))]), (.cst (.int 40014))])])]), (.cst (.int 2147483563))]), .ret (.op .mod [(.op .int [(.op .fdiv [(.nm 2), (.cst (.int 16))])]), (.nm 1)])]
def C__law_draw : CT := mk [] 5 2 b__law_draw
abbrev s__law_draw : Stmt := top 30
def d__law_draw : He.DefD := ⟨("_law_draw", none), "_law_draw", "_law_draw", defArgs s__law_draw, defBody s__law_draw, defScope s__law_draw, [], []⟩
theorem S__law_draw : FnScope N__law_draw ["hand", "many"] (defScope s__law_draw) := ⟨rfl, rfl, rfl, by decide +kernel, rfl, by decide +kernel, by decide +kernel⟩
theorem r__law_draw : (defBody s__law_draw).map (stripS ⟨N__law_draw, f__law_draw, gsI nums, bl⟩ e__law_draw 60 60 (defScope s__law_draw)) = b__law_draw := by kernel_rfl

abbrev N__law_raw : List Str := ["hand", "n", "top", "rows", "i", "j", "place", "row"]
abbrev f__law_raw : List Str := ["_law_draw"]
abbrev e__law_raw : List (Nat × List Nat) := [(117, [4, 5]), (118, [5])]
def b__law_raw : List PF.St := [.asg 3 (.comp (.op .mul [(.lst [(.cst (.int 0))]), (.nm 1)]) (.one 6) 1 [(.nm 1)] []), .for_ (.one 4) 1 [(.nm 1)] [.for_ (.one 5) 1 [(.nm 4)] [.asg1 (.s2 3 (.nm 4) (.nm 5)) (.op .add [(.cst (.int 1)), (.call 0 [(.nm 0), (.nm 2)])]), .asg1 (.s2 3 (.nm 5) (.nm 4)) (.idx (.idx (.nm 3) (.nm 4)) (.nm 5))] [5]] [4, 5], .ret (.op .tuple [(.comp (.op .tuple [(.nm 7)]) (.one 7) 0 [(.nm 3)] [])])]
def C__law_raw : CT := mk [C__law_draw] 8 3 b__law_raw
abbrev s__law_raw : Stmt := top 32
def d__law_raw : He.DefD := ⟨("_law_raw", none), "_law_raw", "_law_raw", defArgs s__law_raw, defBody s__law_raw, defScope s__law_raw, [], []⟩
theorem S__law_raw : FnScope N__law_raw ["hand", "n", "top"] (defScope s__law_raw) := ⟨rfl, rfl, rfl, by decide +kernel, rfl, by decide +kernel, by decide +kernel⟩
theorem r__law_raw : (defBody s__law_raw).map (stripS ⟨N__law_raw, f__law_raw, gsI nums, bl⟩ e__law_raw 60 60 (defScope s__law_raw)) = b__law_raw := by kernel_rfl

abbrev N_is_sized : List Str := ["thing", "low", "high"]
abbrev f_is_sized : List Str := []
abbrev e_is_sized : List (Nat × List Nat) := []
def b_is_sized : List PF.St := [.ret (.and_ (.op (.isi "tuple") [(.nm 0)]) (.chain .le .le (.nm 1) (.op .len [(.nm 0)]) (.nm 2)))]
def C_is_sized : CT := mk [] 3 3 b_is_sized
abbrev s_is_sized : Stmt := top 3
def d_is_sized : He.DefD := ⟨("is_sized", none), "is_sized", "is_sized", defArgs s_is_sized, defBody s_is_sized, defScope s_is_sized, [], []⟩
theorem S_is_sized : FnScope N_is_sized ["thing", "low", "high"] (defScope s_is_sized) := ⟨rfl, rfl, rfl, by decide +kernel, rfl, by decide +kernel, by decide +kernel⟩
theorem r_is_sized : (defBody s_is_sized).map (stripS ⟨N_is_sized, f_is_sized, gsI nums, bl⟩ e_is_sized 60 60 (defScope s_is_sized)) = b_is_sized := by kernel_rfl

abbrev N_is_integer : List Str := ["thing"]
abbrev f_is_integer : List Str := []
abbrev e_is_integer : List (Nat × List Nat) := []
def b_is_integer : List PF.St := [.ret (.and_ (.op (.isi "int") [(.nm 0)]) (.not_ (.op (.isi "bool") [(.nm 0)])))]
def C_is_integer : CT := mk [] 1 1 b_is_integer
abbrev s_is_integer : Stmt := top 1
def d_is_integer : He.DefD := ⟨("is_integer", none), "is_integer", "is_integer", defArgs s_is_integer, defBody s_is_integer, defScope s_is_integer, [], []⟩
theorem S_is_integer : FnScope N_is_integer ["thing"] (defScope s_is_integer) := ⟨rfl, rfl, rfl, by decide +kernel, rfl, by decide +kernel, by decide +kernel⟩
theorem r_is_integer : (defBody s_is_integer).map (stripS ⟨N_is_integer, f_is_integer, gsI nums, bl⟩ e_is_integer 60 60 (defScope s_is_integer)) = b_is_integer := by kernel_rfl

abbrev N_is_within : List Str := ["thing", "low", "high"]
abbrev f_is_within : List Str := ["is_integer"]
abbrev e_is_within : List (Nat × List Nat) := []
def b_is_within : List PF.St := [.ret (.and_ (.call 0 [(.nm 0)]) (.chain .le .le (.nm 1) (.nm 0) (.nm 2)))]
def C_is_within : CT := mk [C_is_integer] 3 3 b_is_within
abbrev s_is_within : Stmt := top 2
def d_is_within : He.DefD := ⟨("is_within", none), "is_within", "is_within", defArgs s_is_within, defBody s_is_within, defScope s_is_within, [], []⟩
theorem S_is_within : FnScope N_is_within ["thing", "low", "high"] (defScope s_is_within) := ⟨rfl, rfl, rfl, by decide +kernel, rfl, by decide +kernel, by decide +kernel⟩
theorem r_is_within : (defBody s_is_within).map (stripS ⟨N_is_within, f_is_within, gsI nums, bl⟩ e_is_within 60 60 (defScope s_is_within)) = b_is_within := by kernel_rfl

abbrev N_is_table : List Str := ["thing", "i", "row", "one", "j"]
abbrev f_is_table : List Str := ["is_sized", "is_within"]
abbrev e_is_table : List (Nat × List Nat) := [(31, [])]
def b_is_table : List PF.St := [.ite (.or_ (.not_ (.call 0 [(.nm 0), (.cst (.int 1)), (.cst (.int 7))])) (.not_ (.op .all [(.comp (.call 0 [(.nm 2), (.op .len [(.nm 0)]), (.op .len [(.nm 0)])]) (.one 2) 0 [(.nm 0)] [])]))) [.ret (.cst (.bl false))] [], .for_ (.many [1, 2]) 3 [(.nm 0)] [.ite (.not_ (.op .all [(.comp (.call 1 [(.nm 3), (.cst (.int 0)), (.cst (.int 1000))]) (.one 3) 0 [(.nm 2)] [])])) [.ret (.cst (.bl false))] [], .ite (.op .any [(.comp (.op .ne [(.op .eq [(.nm 3), (.cst (.int 0))]), (.op .eq [(.nm 1), (.nm 4)])]) (.many [4, 3]) 3 [(.nm 2)] [])]) [.ret (.cst (.bl false))] []] [], .ret (.op .all [(.comp (.op .all [(.comp (.op .eq [(.idx (.nm 2) (.nm 4)), (.idx (.idx (.nm 0) (.nm 4)) (.nm 1))]) (.one 4) 1 [(.nm 1)] [])]) (.many [1, 2]) 3 [(.nm 0)] [])])]
def C_is_table : CT := mk [C_is_sized, C_is_within] 5 1 b_is_table
abbrev s_is_table : Stmt := top 14
def d_is_table : He.DefD := ⟨("is_table", none), "is_table", "is_table", defArgs s_is_table, defBody s_is_table, defScope s_is_table, [], []⟩
theorem S_is_table : FnScope N_is_table ["thing"] (defScope s_is_table) := ⟨rfl, rfl, rfl, by decide +kernel, rfl, by decide +kernel, by decide +kernel⟩
theorem r_is_table : (defBody s_is_table).map (stripS ⟨N_is_table, f_is_table, gsI nums, bl⟩ e_is_table 60 60 (defScope s_is_table)) = b_is_table := by kernel_rfl

abbrev N_check_table : List Str := ["thing"]
abbrev f_check_table : List Str := ["is_table"]
abbrev e_check_table : List (Nat × List Nat) := []
def b_check_table : List PF.St := [.ite (.not_ (.call 0 [(.nm 0)])) [.fail] []]
def C_check_table : CT := mk [C_is_table] 1 1 b_check_table
abbrev s_check_table : Stmt := top 15
def d_check_table : He.DefD := ⟨("check_table", none), "check_table", "check_table", defArgs s_check_table, defBody s_check_table, defScope s_check_table, [], []⟩
theorem S_check_table : FnScope N_check_table ["thing"] (defScope s_check_table) := ⟨rfl, rfl, rfl, by decide +kernel, rfl, by decide +kernel, by decide +kernel⟩
theorem r_check_table : (defBody s_check_table).map (stripS ⟨N_check_table, f_check_table, gsI nums, bl⟩ e_check_table 60 60 (defScope s_check_table)) = b_check_table := by kernel_rfl

abbrev N_is_lot : List Str := ["thing", "many", "one", "other"]
abbrev f_is_lot : List Str := ["is_within"]
abbrev e_is_lot : List (Nat × List Nat) := []
def b_is_lot : List PF.St := [.ite (.or_ (.not_ (.op (.isi "tuple") [(.nm 0)])) (.not_ (.op .all [(.comp (.call 0 [(.nm 2), (.cst (.int 0)), (.op .sub [(.nm 1), (.cst (.int 1))])]) (.one 2) 0 [(.nm 0)] [])]))) [.ret (.cst (.bl false))] [], .ret (.op .all [(.comp (.op .lt [(.nm 2), (.nm 3)]) (.many [2, 3]) 4 [(.nm 0), (.op (.slice true false) [(.nm 0), (.cst (.int 1))])] [])])]
def C_is_lot : CT := mk [C_is_within] 4 2 b_is_lot
abbrev s_is_lot : Stmt := top 4
def d_is_lot : He.DefD := ⟨("is_lot", none), "is_lot", "is_lot", defArgs s_is_lot, defBody s_is_lot, defScope s_is_lot, [], []⟩
theorem S_is_lot : FnScope N_is_lot ["thing", "many"] (defScope s_is_lot) := ⟨rfl, rfl, rfl, by decide +kernel, rfl, by decide +kernel, by decide +kernel⟩
theorem r_is_lot : (defBody s_is_lot).map (stripS ⟨N_is_lot, f_is_lot, gsI nums, bl⟩ e_is_lot 60 60 (defScope s_is_lot)) = b_is_lot := by kernel_rfl

abbrev N_check_lot : List Str := ["table", "lot"]
abbrev f_check_lot : List Str := ["is_lot"]
abbrev e_check_lot : List (Nat × List Nat) := []
def b_check_lot : List PF.St := [.ite (.or_ (.not_ (.call 0 [(.nm 1), (.op .len [(.nm 0)])])) (.op .eq [(.op .len [(.nm 1)]), (.cst (.int 0))])) [.fail] []]
def C_check_lot : CT := mk [C_is_lot] 2 2 b_check_lot
abbrev s_check_lot : Stmt := top 18
def d_check_lot : He.DefD := ⟨("check_lot", none), "check_lot", "check_lot", defArgs s_check_lot, defBody s_check_lot, defScope s_check_lot, [], []⟩
theorem S_check_lot : FnScope N_check_lot ["table", "lot"] (defScope s_check_lot) := ⟨rfl, rfl, rfl, by decide +kernel, rfl, by decide +kernel, by decide +kernel⟩
theorem r_check_lot : (defBody s_check_lot).map (stripS ⟨N_check_lot, f_check_lot, gsI nums, bl⟩ e_check_lot 60 60 (defScope s_check_lot)) = b_check_lot := by kernel_rfl

abbrev N_raw_part : List Str := ["table", "lot", "i", "j"]
abbrev f_raw_part : List Str := []
abbrev e_raw_part : List (Nat × List Nat) := []
def b_raw_part : List PF.St := [.ret (.op .tuple [(.comp (.op .tuple [(.comp (.idx (.idx (.nm 0) (.nm 2)) (.nm 3)) (.one 3) 0 [(.nm 1)] [])]) (.one 2) 0 [(.nm 1)] [])])]
def C_raw_part : CT := mk [] 4 2 b_raw_part
abbrev s_raw_part : Stmt := top 17
def d_raw_part : He.DefD := ⟨("raw_part", none), "raw_part", "raw_part", defArgs s_raw_part, defBody s_raw_part, defScope s_raw_part, [], []⟩
theorem S_raw_part : FnScope N_raw_part ["table", "lot"] (defScope s_raw_part) := ⟨rfl, rfl, rfl, by decide +kernel, rfl, by decide +kernel, by decide +kernel⟩
theorem r_raw_part : (defBody s_raw_part).map (stripS ⟨N_raw_part, f_raw_part, gsI nums, bl⟩ e_raw_part 60 60 (defScope s_raw_part)) = b_raw_part := by kernel_rfl

abbrev N_part : List Str := ["table", "lot"]
abbrev f_part : List Str := ["check_table", "check_lot", "raw_part"]
abbrev e_part : List (Nat × List Nat) := []
def b_part : List PF.St := [.exp (.call 0 [(.nm 0)]), .exp (.call 1 [(.nm 0), (.nm 1)]), .ret (.call 2 [(.nm 0), (.nm 1)])]
def C_part : CT := mk [C_check_table, C_check_lot, C_raw_part] 2 2 b_part
abbrev s_part : Stmt := top 19
def d_part : He.DefD := ⟨("part", none), "part", "part", defArgs s_part, defBody s_part, defScope s_part, [], []⟩
theorem S_part : FnScope N_part ["table", "lot"] (defScope s_part) := ⟨rfl, rfl, rfl, by decide +kernel, rfl, by decide +kernel, by decide +kernel⟩
theorem r_part : (defBody s_part).map (stripS ⟨N_part, f_part, gsI nums, bl⟩ e_part 60 60 (defScope s_part)) = b_part := by kernel_rfl

abbrev N_are_all : List Str := ["thing", "many", "one"]
abbrev f_are_all : List Str := ["is_within", "is_sized"]
abbrev e_are_all : List (Nat × List Nat) := []
def b_are_all : List PF.St := [.ite (.or_ (.not_ (.call 1 [(.nm 0), (.nm 1), (.nm 1)])) (.not_ (.op .all [(.comp (.call 0 [(.nm 2), (.cst (.int 0)), (.op .sub [(.nm 1), (.cst (.int 1))])]) (.one 2) 0 [(.nm 0)] [])]))) [.ret (.cst (.bl false))] [], .ret (.op .eq [(.op .sorted [(.nm 0)]), (.op .lrng1 [(.nm 1)])])]
def C_are_all : CT := mk [C_is_within, C_is_sized] 3 2 b_are_all
abbrev s_are_all : Stmt := top 5
def d_are_all : He.DefD := ⟨("are_all", none), "are_all", "are_all", defArgs s_are_all, defBody s_are_all, defScope s_are_all, [], []⟩
theorem S_are_all : FnScope N_are_all ["thing", "many"] (defScope s_are_all) := ⟨rfl, rfl, rfl, by decide +kernel, rfl, by decide +kernel, by decide +kernel⟩
theorem r_are_all : (defBody s_are_all).map (stripS ⟨N_are_all, f_are_all, gsI nums, bl⟩ e_are_all 60 60 (defScope s_are_all)) = b_are_all := by kernel_rfl

abbrev N_raw_renamed : List Str := ["table", "names", "places", "name"]
abbrev f_raw_renamed : List Str := ["raw_part"]
abbrev e_raw_renamed : List (Nat × List Nat) := []
def b_raw_renamed : List PF.St := [.asg 2 (.comp (.mth .index (.nm 1) (.nm 3)) (.one 3) 1 [(.op .len [(.nm 1)])] []), .ret (.call 0 [(.nm 0), (.nm 2)])]
def C_raw_renamed : CT := mk [C_raw_part] 4 2 b_raw_renamed
abbrev s_raw_renamed : Stmt := top 20
def d_raw_renamed : He.DefD := ⟨("raw_renamed", none), "raw_renamed", "raw_renamed", defArgs s_raw_renamed, defBody s_raw_renamed, defScope s_raw_renamed, [], []⟩
theorem S_raw_renamed : FnScope N_raw_renamed ["table", "names"] (defScope s_raw_renamed) := ⟨rfl, rfl, rfl, by decide +kernel, rfl, by decide +kernel, by decide +kernel⟩
theorem r_raw_renamed : (defBody s_raw_renamed).map (stripS ⟨N_raw_renamed, f_raw_renamed, gsI nums, bl⟩ e_raw_renamed 60 60 (defScope s_raw_renamed)) = b_raw_renamed := by kernel_rfl

abbrev N_renamed : List Str := ["table", "names"]
abbrev f_renamed : List Str := ["check_table", "are_all", "raw_renamed"]
abbrev e_renamed : List (Nat × List Nat) := []
def b_renamed : List PF.St := [.exp (.call 0 [(.nm 0)]), .ite (.not_ (.call 1 [(.nm 1), (.op .len [(.nm 0)])])) [.fail] [], .ret (.call 2 [(.nm 0), (.nm 1)])]
def C_renamed : CT := mk [C_check_table, C_are_all, C_raw_renamed] 2 2 b_renamed
abbrev s_renamed : Stmt := top 21
def d_renamed : He.DefD := ⟨("renamed", none), "renamed", "renamed", defArgs s_renamed, defBody s_renamed, defScope s_renamed, [], []⟩
theorem S_renamed : FnScope N_renamed ["table", "names"] (defScope s_renamed) := ⟨rfl, rfl, rfl, by decide +kernel, rfl, by decide +kernel, by decide +kernel⟩
theorem r_renamed : (defBody s_renamed).map (stripS ⟨N_renamed, f_renamed, gsI nums, bl⟩ e_renamed 60 60 (defScope s_renamed)) = b_renamed := by kernel_rfl

abbrev N__law_any : List Str := ["hand", "some"]
abbrev f__law_any : List Str := ["_law_draw"]
abbrev e__law_any : List (Nat × List Nat) := []
def b__law_any : List PF.St := [.ret (.idx (.nm 1) (.call 0 [(.nm 0), (.op .len [(.nm 1)])]))]
def C__law_any : CT := mk [C__law_draw] 2 2 b__law_any
abbrev s__law_any : Stmt := top 31
def d__law_any : He.DefD := ⟨("_law_any", none), "_law_any", "_law_any", defArgs s__law_any, defBody s__law_any, defScope s__law_any, [], []⟩
theorem S__law_any : FnScope N__law_any ["hand", "some"] (defScope s__law_any) := ⟨rfl, rfl, rfl, by decide +kernel, rfl, by decide +kernel, by decide +kernel⟩
theorem r__law_any : (defBody s__law_any).map (stripS ⟨N__law_any, f__law_any, gsI nums, bl⟩ e__law_any 60 60 (defScope s__law_any)) = b__law_any := by kernel_rfl

abbrev N__law_names : List Str := ["n", "found", "step", "longer", "row", "one"]
abbrev f__law_names : List Str := []
abbrev e__law_names : List (Nat × List Nat) := [(124, [2, 3, 4]), (126, [4])]
def b__law_names : List PF.St := [.asg 1 (.lst [(.tup [])]), .for_ (.one 2) 1 [(.nm 0)] [.asg 3 (.lst []), .for_ (.one 4) 0 [(.nm 1)] [.asg 3 (.op .add [(.nm 3), (.comp (.op .add [(.nm 4), (.tup [(.nm 5)])]) (.one 5) 1 [(.nm 0)] [(.op .nin [(.nm 5), (.nm 4)])])])] [4], .asg 1 (.nm 3)] [2, 3, 4], .ret (.nm 1)]
def C__law_names : CT := mk [] 6 1 b__law_names
abbrev s__law_names : Stmt := top 33
def d__law_names : He.DefD := ⟨("_law_names", none), "_law_names", "_law_names", defArgs s__law_names, defBody s__law_names, defScope s__law_names, [], []⟩
theorem S__law_names : FnScope N__law_names ["n"] (defScope s__law_names) := ⟨rfl, rfl, rfl, by decide +kernel, rfl, by decide +kernel, by decide +kernel⟩
theorem r__law_names : (defBody s__law_names).map (stripS ⟨N__law_names, f__law_names, gsI nums, bl⟩ e__law_names 60 60 (defScope s__law_names)) = b__law_names := by kernel_rfl

abbrev N__law_fits : List Str := ["one", "other", "found", "place", "longer", "row", "goal", "k"]
abbrev f__law_fits : List Str := []
abbrev e__law_fits : List (Nat × List Nat) := [(132, [3, 4, 5, 6]), (134, [5, 6]), (135, [6])]
def b__law_fits : List PF.St := [.asg 2 (.lst [(.tup [])]), .for_ (.one 3) 1 [(.op .len [(.nm 0)])] [.asg 4 (.lst []), .for_ (.one 5) 0 [(.nm 2)] [.for_ (.one 6) 1 [(.op .len [(.nm 1)])] [.ite (.and_ (.op .nin [(.nm 6), (.nm 5)]) (.op .all [(.comp (.op .eq [(.idx (.idx (.nm 1) (.idx (.nm 5) (.nm 7))) (.nm 6)), (.idx (.idx (.nm 0) (.nm 7)) (.nm 3))]) (.one 7) 1 [(.nm 3)] [])])) [.app 4 (.op .add [(.nm 5), (.tup [(.nm 6)])])] []] [6]] [5, 6], .asg 2 (.nm 4)] [3, 4, 5, 6], .ret (.nm 2)]
def C__law_fits : CT := mk [] 8 2 b__law_fits
abbrev s__law_fits : Stmt := top 34
def d__law_fits : He.DefD := ⟨("_law_fits", none), "_law_fits", "_law_fits", defArgs s__law_fits, defBody s__law_fits, defScope s__law_fits, [], []⟩
theorem S__law_fits : FnScope N__law_fits ["one", "other"] (defScope s__law_fits) := ⟨rfl, rfl, rfl, by decide +kernel, rfl, by decide +kernel, by decide +kernel⟩
theorem r__law_fits : (defBody s__law_fits).map (stripS ⟨N__law_fits, f__law_fits, gsI nums, bl⟩ e__law_fits 60 60 (defScope s__law_fits)) = b__law_fits := by kernel_rfl

abbrev N_check_both : List Str := ["one", "other"]
abbrev f_check_both : List Str := ["check_table"]
abbrev e_check_both : List (Nat × List Nat) := []
def b_check_both : List PF.St := [.exp (.call 0 [(.nm 0)]), .exp (.call 0 [(.nm 1)])]
def C_check_both : CT := mk [C_check_table] 2 2 b_check_both
abbrev s_check_both : Stmt := top 16
def d_check_both : He.DefD := ⟨("check_both", none), "check_both", "check_both", defArgs s_check_both, defBody s_check_both, defScope s_check_both, [], []⟩
theorem S_check_both : FnScope N_check_both ["one", "other"] (defScope s_check_both) := ⟨rfl, rfl, rfl, by decide +kernel, rfl, by decide +kernel, by decide +kernel⟩
theorem r_check_both : (defBody s_check_both).map (stripS ⟨N_check_both, f_check_both, gsI nums, bl⟩ e_check_both 60 60 (defScope s_check_both)) = b_check_both := by kernel_rfl

abbrev N_all_fits : List Str := ["one", "other", "found", "place", "longer", "row", "goal", "at"]
abbrev f_all_fits : List Str := []
abbrev e_all_fits : List (Nat × List Nat) := [(78, [3, 4, 5, 6]), (80, [5, 6]), (81, [6])]
def b_all_fits : List PF.St := [.asg 2 (.lst [(.tup [])]), .for_ (.one 3) 1 [(.op .len [(.nm 0)])] [.asg 4 (.lst []), .for_ (.one 5) 0 [(.nm 2)] [.for_ (.one 6) 1 [(.op .len [(.nm 1)])] [.ite (.and_ (.op .nin [(.nm 6), (.nm 5)]) (.op .all [(.comp (.op .eq [(.idx (.idx (.nm 0) (.nm 7)) (.nm 3)), (.idx (.idx (.nm 1) (.idx (.nm 5) (.nm 7))) (.nm 6))]) (.one 7) 1 [(.nm 3)] [])])) [.app 4 (.op .add [(.nm 5), (.tup [(.nm 6)])])] []] [6]] [5, 6], .asg 2 (.nm 4)] [3, 4, 5, 6], .ret (.nm 2)]
def C_all_fits : CT := mk [] 8 2 b_all_fits
abbrev s_all_fits : Stmt := top 25
def d_all_fits : He.DefD := ⟨("all_fits", none), "all_fits", "all_fits", defArgs s_all_fits, defBody s_all_fits, defScope s_all_fits, [], []⟩
theorem S_all_fits : FnScope N_all_fits ["one", "other"] (defScope s_all_fits) := ⟨rfl, rfl, rfl, by decide +kernel, rfl, by decide +kernel, by decide +kernel⟩
theorem r_all_fits : (defBody s_all_fits).map (stripS ⟨N_all_fits, f_all_fits, gsI nums, bl⟩ e_all_fits 60 60 (defScope s_all_fits)) = b_all_fits := by kernel_rfl

abbrev N_fits_count : List Str := ["one", "other"]
abbrev f_fits_count : List Str := ["check_both", "all_fits"]
abbrev e_fits_count : List (Nat × List Nat) := []
def b_fits_count : List PF.St := [.exp (.call 0 [(.nm 0), (.nm 1)]), .ret (.op .len [(.call 1 [(.nm 0), (.nm 1)])])]
def C_fits_count : CT := mk [C_check_both, C_all_fits] 2 2 b_fits_count
abbrev s_fits_count : Stmt := top 27
def d_fits_count : He.DefD := ⟨("fits_count", none), "fits_count", "fits_count", defArgs s_fits_count, defBody s_fits_count, defScope s_fits_count, [], []⟩
theorem S_fits_count : FnScope N_fits_count ["one", "other"] (defScope s_fits_count) := ⟨rfl, rfl, rfl, by decide +kernel, rfl, by decide +kernel, by decide +kernel⟩
theorem r_fits_count : (defBody s_fits_count).map (stripS ⟨N_fits_count, f_fits_count, gsI nums, bl⟩ e_fits_count 60 60 (defScope s_fits_count)) = b_fits_count := by kernel_rfl

abbrev N_fits_in : List Str := ["one", "other", "found"]
abbrev f_fits_in : List Str := ["check_both", "all_fits"]
abbrev e_fits_in : List (Nat × List Nat) := []
def b_fits_in : List PF.St := [.exp (.call 0 [(.nm 0), (.nm 1)]), .asg 2 (.call 1 [(.nm 0), (.nm 1)]), .ret (.ifx (.op .gt [(.op .len [(.nm 2)]), (.cst (.int 0))]) (.idx (.nm 2) (.cst (.int 0))) (.cst .non))]
def C_fits_in : CT := mk [C_check_both, C_all_fits] 3 2 b_fits_in
abbrev s_fits_in : Stmt := top 26
def d_fits_in : He.DefD := ⟨("fits_in", none), "fits_in", "fits_in", defArgs s_fits_in, defBody s_fits_in, defScope s_fits_in, [], []⟩
theorem S_fits_in : FnScope N_fits_in ["one", "other"] (defScope s_fits_in) := ⟨rfl, rfl, rfl, by decide +kernel, rfl, by decide +kernel, by decide +kernel⟩
theorem r_fits_in : (defBody s_fits_in).map (stripS ⟨N_fits_in, f_fits_in, gsI nums, bl⟩ e_fits_in 60 60 (defScope s_fits_in)) = b_fits_in := by kernel_rfl

abbrev N_all_names : List Str := ["one", "other", "found", "place", "longer", "row", "name", "at"]
abbrev f_all_names : List Str := []
abbrev e_all_names : List (Nat × List Nat) := [(64, [3, 4, 5, 6]), (66, [5, 6]), (67, [6])]
def b_all_names : List PF.St := [.ite (.op .ne [(.op .len [(.nm 0)]), (.op .len [(.nm 1)])]) [.ret (.lst [])] [], .asg 2 (.lst [(.tup [])]), .for_ (.one 3) 1 [(.op .len [(.nm 0)])] [.asg 4 (.lst []), .for_ (.one 5) 0 [(.nm 2)] [.for_ (.one 6) 1 [(.op .len [(.nm 0)])] [.ite (.and_ (.op .nin [(.nm 6), (.nm 5)]) (.op .all [(.comp (.op .eq [(.idx (.idx (.nm 0) (.nm 7)) (.nm 3)), (.idx (.idx (.nm 1) (.idx (.nm 5) (.nm 7))) (.nm 6))]) (.one 7) 1 [(.nm 3)] [])])) [.app 4 (.op .add [(.nm 5), (.tup [(.nm 6)])])] []] [6]] [5, 6], .asg 2 (.nm 4)] [3, 4, 5, 6], .ret (.nm 2)]
def C_all_names : CT := mk [] 8 2 b_all_names
abbrev s_all_names : Stmt := top 22
def d_all_names : He.DefD := ⟨("all_names", none), "all_names", "all_names", defArgs s_all_names, defBody s_all_names, defScope s_all_names, [], []⟩
theorem S_all_names : FnScope N_all_names ["one", "other"] (defScope s_all_names) := ⟨rfl, rfl, rfl, by decide +kernel, rfl, by decide +kernel, by decide +kernel⟩
theorem r_all_names : (defBody s_all_names).map (stripS ⟨N_all_names, f_all_names, gsI nums, bl⟩ e_all_names 60 60 (defScope s_all_names)) = b_all_names := by kernel_rfl

abbrev N_keepers : List Str := ["table"]
abbrev f_keepers : List Str := ["check_table", "all_names"]
abbrev e_keepers : List (Nat × List Nat) := []
def b_keepers : List PF.St := [.exp (.call 0 [(.nm 0)]), .ret (.op .tuple [(.call 1 [(.nm 0), (.nm 0)])])]
def C_keepers : CT := mk [C_check_table, C_all_names] 1 1 b_keepers
abbrev s_keepers : Stmt := top 23
def d_keepers : He.DefD := ⟨("keepers", none), "keepers", "keepers", defArgs s_keepers, defBody s_keepers, defScope s_keepers, [], []⟩
theorem S_keepers : FnScope N_keepers ["table"] (defScope s_keepers) := ⟨rfl, rfl, rfl, by decide +kernel, rfl, by decide +kernel, by decide +kernel⟩
theorem r_keepers : (defBody s_keepers).map (stripS ⟨N_keepers, f_keepers, gsI nums, bl⟩ e_keepers 60 60 (defScope s_keepers)) = b_keepers := by kernel_rfl

abbrev N_law : List Str := ["script", "hand", "turn", "other", "lot", "one", "due", "place"]
abbrev f_law : List Str := ["_law_hand", "_law_raw", "_law_draw", "part", "renamed", "_law_any", "_law_names", "_law_fits", "fits_count", "fits_in", "keepers"]
abbrev e_law : List (Nat × List Nat) := [(142, [2, 3, 4, 5, 6])]
def b_law : List PF.St := [.asg 1 (.call 0 [(.nm 0)]), .for_ (.one 2) 1 [(.cst (.int 4))] [.asg 3 (.call 1 [(.nm 1), (.op .add [(.cst (.int 1)), (.call 2 [(.nm 1), (.cst (.int 5))])]), (.op .add [(.cst (.int 1)), (.call 2 [(.nm 1), (.cst (.int 3))])])]), .asg 4 (.op .tuple [(.comp (.nm 7) (.one 7) 1 [(.op .len [(.nm 3)])] [(.op .gt [(.call 2 [(.nm 1), (.cst (.int 3))]), (.cst (.int 0))])])]), .asg 5 (.call 1 [(.nm 1), (.op .add [(.cst (.int 1)), (.call 2 [(.nm 1), (.cst (.int 4))])]), (.op .add [(.cst (.int 1)), (.call 2 [(.nm 1), (.cst (.int 3))])])]), .asg 5 (.ifx (.and_ (.op .ne [(.nm 4), (.tup [])]) (.op .eq [(.call 2 [(.nm 1), (.cst (.int 2))]), (.cst (.int 0))])) (.call 3 [(.nm 3), (.nm 4)]) (.nm 5)), .asg 5 (.call 4 [(.nm 5), (.call 5 [(.nm 1), (.call 6 [(.op .len [(.nm 5)])])])]), .asg 6 (.call 7 [(.nm 5), (.nm 3)]), .ite (.or_ (.op .ne [(.call 9 [(.nm 5), (.nm 3)]), (.ifx (.op .ne [(.nm 6), (.lst [])]) (.idx (.nm 6) (.cst (.int 0))) (.cst .non))]) (.op .ne [(.call 8 [(.nm 5), (.nm 3)]), (.op .len [(.nm 6)])])) [.ret (.cst (.bl false))] [], .ite (.or_ (.op .ne [(.call 8 [(.nm 3), (.nm 3)]), (.op .len [(.call 10 [(.nm 3)])])]) (.op .ne [(.call 9 [(.nm 3), (.nm 3)]), (.op .trng1 [(.op .len [(.nm 3)])])])) [.ret (.cst (.bl false))] [], .ite (.and_ (.op .lt [(.op .len [(.nm 3)]), (.op .len [(.nm 5)])]) (.op .ne [(.nm 6), (.lst [])])) [.ret (.cst (.bl false))] []] [2, 3, 4, 5, 6], .ret (.cst (.bl true))]
def C_law : CT := mk [C__law_hand, C__law_raw, C__law_draw, C_part, C_renamed, C__law_any, C__law_names, C__law_fits, C_fits_count, C_fits_in, C_keepers] 8 1 b_law
abbrev s_law : Stmt := top 35
def d_law : He.DefD := ⟨("law", none), "law", "law", defArgs s_law, defBody s_law, defScope s_law, [], []⟩
theorem S_law : FnScope N_law ["script"] (defScope s_law) := ⟨rfl, rfl, rfl, by decide +kernel, rfl, by decide +kernel, by decide +kernel⟩
theorem r_law : (defBody s_law).map (stripS ⟨N_law, f_law, gsI nums, bl⟩ e_law 60 60 (defScope s_law)) = b_law := by kernel_rfl

def fn : List He.DefD := [d__law_hand, d__law_draw, d__law_raw, d_is_sized, d_is_integer, d_is_within, d_is_table, d_check_table, d_is_lot, d_check_lot, d_raw_part, d_part, d_are_all, d_raw_renamed, d_renamed, d__law_any, d__law_names, d__law_fits, d_check_both, d_all_fits, d_fits_count, d_fits_in, d_all_names, d_keepers, d_law]
abbrev fa : List He.Fa := faOf gl nums bl
section
variable {P : Program} {w : World} {K : PySem.W.Frag} {mg : Str → Option Value} {base h : Heap}
theorem k__law_hand (X : K.In h) (G : h.Ns mainGlobals mg) (c : He.SaysD fa fn K) : Nonempty (CalG P w K mg base 1 C__law_hand "_law_hand") := by
  obtain ⟨fd, F⟩ := c.def_ 0 (d := d__law_hand) rfl
  exact cal_of (k := 0) (mo_of X G c) F (glo_of X G c (by decide +kernel)) S__law_hand (.nil) (congrArg (mk [] 3 1) r__law_hand) fun _ _ _ _ _ _ us hl => match us, hl with | [_], _ => rfl
theorem k__law_draw (X : K.In h) (G : h.Ns mainGlobals mg) (c : He.SaysD fa fn K) : Nonempty (CalG P w K mg base 1 C__law_draw "_law_draw") := by
  obtain ⟨fd, F⟩ := c.def_ 1 (d := d__law_draw) rfl
  exact cal_of (k := 0) (mo_of X G c) F (glo_of X G c (by decide +kernel)) S__law_draw (.nil) (congrArg (mk [] 5 2) r__law_draw) fun _ _ _ _ _ _ us hl => match us, hl with | [_, _], _ => rfl
theorem k__law_raw (X : K.In h) (G : h.Ns mainGlobals mg) (c : He.SaysD fa fn K) (h__law_draw : Nonempty (CalG P w K mg base 1 C__law_draw "_law_draw")) : Nonempty (CalG P w K mg base 2 C__law_raw "_law_raw") := by
  obtain ⟨fd, F⟩ := c.def_ 2 (d := d__law_raw) rfl
  exact cal_of (k := 1) (mo_of X G c) F (glo_of X G c (by decide +kernel)) S__law_raw (.cons h__law_draw (by decide) (.nil)) (congrArg (mk [C__law_draw] 8 3) r__law_raw) fun _ _ _ _ _ _ us hl => match us, hl with | [_, _, _], _ => rfl
theorem k_is_sized (X : K.In h) (G : h.Ns mainGlobals mg) (c : He.SaysD fa fn K) : Nonempty (CalG P w K mg base 1 C_is_sized "is_sized") := by
  obtain ⟨fd, F⟩ := c.def_ 3 (d := d_is_sized) rfl
  exact cal_of (k := 0) (mo_of X G c) F (glo_of X G c (by decide +kernel)) S_is_sized (.nil) (congrArg (mk [] 3 3) r_is_sized) fun _ _ _ _ _ _ us hl => match us, hl with | [_, _, _], _ => rfl
theorem k_is_integer (X : K.In h) (G : h.Ns mainGlobals mg) (c : He.SaysD fa fn K) : Nonempty (CalG P w K mg base 1 C_is_integer "is_integer") := by
  obtain ⟨fd, F⟩ := c.def_ 4 (d := d_is_integer) rfl
  exact cal_of (k := 0) (mo_of X G c) F (glo_of X G c (by decide +kernel)) S_is_integer (.nil) (congrArg (mk [] 1 1) r_is_integer) fun _ _ _ _ _ _ us hl => match us, hl with | [_], _ => rfl
theorem k_is_within (X : K.In h) (G : h.Ns mainGlobals mg) (c : He.SaysD fa fn K) (h_is_integer : Nonempty (CalG P w K mg base 1 C_is_integer "is_integer")) : Nonempty (CalG P w K mg base 2 C_is_within "is_within") := by
  obtain ⟨fd, F⟩ := c.def_ 5 (d := d_is_within) rfl
  exact cal_of (k := 1) (mo_of X G c) F (glo_of X G c (by decide +kernel)) S_is_within (.cons h_is_integer (by decide) (.nil)) (congrArg (mk [C_is_integer] 3 3) r_is_within) fun _ _ _ _ _ _ us hl => match us, hl with | [_, _, _], _ => rfl
theorem k_is_table (X : K.In h) (G : h.Ns mainGlobals mg) (c : He.SaysD fa fn K) (h_is_sized : Nonempty (CalG P w K mg base 1 C_is_sized "is_sized")) (h_is_within : Nonempty (CalG P w K mg base 2 C_is_within "is_within")) : Nonempty (CalG P w K mg base 3 C_is_table "is_table") := by
  obtain ⟨fd, F⟩ := c.def_ 6 (d := d_is_table) rfl
  exact cal_of (k := 2) (mo_of X G c) F (glo_of X G c (by decide +kernel)) S_is_table (.cons h_is_sized (by decide) (.cons h_is_within (by decide) (.nil))) (congrArg (mk [C_is_sized, C_is_within] 5 1) r_is_table) fun _ _ _ _ _ _ us hl => match us, hl with | [_], _ => rfl
theorem k_check_table (X : K.In h) (G : h.Ns mainGlobals mg) (c : He.SaysD fa fn K) (h_is_table : Nonempty (CalG P w K mg base 3 C_is_table "is_table")) : Nonempty (CalG P w K mg base 4 C_check_table "check_table") := by
  obtain ⟨fd, F⟩ := c.def_ 7 (d := d_check_table) rfl
  exact cal_of (k := 3) (mo_of X G c) F (glo_of X G c (by decide +kernel)) S_check_table (.cons h_is_table (by decide) (.nil)) (congrArg (mk [C_is_table] 1 1) r_check_table) fun _ _ _ _ _ _ us hl => match us, hl with | [_], _ => rfl
theorem k_is_lot (X : K.In h) (G : h.Ns mainGlobals mg) (c : He.SaysD fa fn K) (h_is_within : Nonempty (CalG P w K mg base 2 C_is_within "is_within")) : Nonempty (CalG P w K mg base 3 C_is_lot "is_lot") := by
  obtain ⟨fd, F⟩ := c.def_ 8 (d := d_is_lot) rfl
  exact cal_of (k := 2) (mo_of X G c) F (glo_of X G c (by decide +kernel)) S_is_lot (.cons h_is_within (by decide) (.nil)) (congrArg (mk [C_is_within] 4 2) r_is_lot) fun _ _ _ _ _ _ us hl => match us, hl with | [_, _], _ => rfl
theorem k_check_lot (X : K.In h) (G : h.Ns mainGlobals mg) (c : He.SaysD fa fn K) (h_is_lot : Nonempty (CalG P w K mg base 3 C_is_lot "is_lot")) : Nonempty (CalG P w K mg base 4 C_check_lot "check_lot") := by
  obtain ⟨fd, F⟩ := c.def_ 9 (d := d_check_lot) rfl
  exact cal_of (k := 3) (mo_of X G c) F (glo_of X G c (by decide +kernel)) S_check_lot (.cons h_is_lot (by decide) (.nil)) (congrArg (mk [C_is_lot] 2 2) r_check_lot) fun _ _ _ _ _ _ us hl => match us, hl with | [_, _], _ => rfl
theorem k_raw_part (X : K.In h) (G : h.Ns mainGlobals mg) (c : He.SaysD fa fn K) : Nonempty (CalG P w K mg base 1 C_raw_part "raw_part") := by
  obtain ⟨fd, F⟩ := c.def_ 10 (d := d_raw_part) rfl
  exact cal_of (k := 0) (mo_of X G c) F (glo_of X G c (by decide +kernel)) S_raw_part (.nil) (congrArg (mk [] 4 2) r_raw_part) fun _ _ _ _ _ _ us hl => match us, hl with | [_, _], _ => rfl
theorem k_part (X : K.In h) (G : h.Ns mainGlobals mg) (c : He.SaysD fa fn K) (h_check_table : Nonempty (CalG P w K mg base 4 C_check_table "check_table")) (h_check_lot : Nonempty (CalG P w K mg base 4 C_check_lot "check_lot")) (h_raw_part : Nonempty (CalG P w K mg base 1 C_raw_part "raw_part")) : Nonempty (CalG P w K mg base 5 C_part "part") := by
  obtain ⟨fd, F⟩ := c.def_ 11 (d := d_part) rfl
  exact cal_of (k := 4) (mo_of X G c) F (glo_of X G c (by decide +kernel)) S_part (.cons h_check_table (by decide) (.cons h_check_lot (by decide) (.cons h_raw_part (by decide) (.nil)))) (congrArg (mk [C_check_table, C_check_lot, C_raw_part] 2 2) r_part) fun _ _ _ _ _ _ us hl => match us, hl with | [_, _], _ => rfl
theorem k_are_all (X : K.In h) (G : h.Ns mainGlobals mg) (c : He.SaysD fa fn K) (h_is_within : Nonempty (CalG P w K mg base 2 C_is_within "is_within")) (h_is_sized : Nonempty (CalG P w K mg base 1 C_is_sized "is_sized")) : Nonempty (CalG P w K mg base 3 C_are_all "are_all") := by
  obtain ⟨fd, F⟩ := c.def_ 12 (d := d_are_all) rfl
  exact cal_of (k := 2) (mo_of X G c) F (glo_of X G c (by decide +kernel)) S_are_all (.cons h_is_within (by decide) (.cons h_is_sized (by decide) (.nil))) (congrArg (mk [C_is_within, C_is_sized] 3 2) r_are_all) fun _ _ _ _ _ _ us hl => match us, hl with | [_, _], _ => rfl
theorem k_raw_renamed (X : K.In h) (G : h.Ns mainGlobals mg) (c : He.SaysD fa fn K) (h_raw_part : Nonempty (CalG P w K mg base 1 C_raw_part "raw_part")) : Nonempty (CalG P w K mg base 2 C_raw_renamed "raw_renamed") := by
  obtain ⟨fd, F⟩ := c.def_ 13 (d := d_raw_renamed) rfl
  exact cal_of (k := 1) (mo_of X G c) F (glo_of X G c (by decide +kernel)) S_raw_renamed (.cons h_raw_part (by decide) (.nil)) (congrArg (mk [C_raw_part] 4 2) r_raw_renamed) fun _ _ _ _ _ _ us hl => match us, hl with | [_, _], _ => rfl
theorem k_renamed (X : K.In h) (G : h.Ns mainGlobals mg) (c : He.SaysD fa fn K) (h_check_table : Nonempty (CalG P w K mg base 4 C_check_table "check_table")) (h_are_all : Nonempty (CalG P w K mg base 3 C_are_all "are_all")) (h_raw_renamed : Nonempty (CalG P w K mg base 2 C_raw_renamed "raw_renamed")) : Nonempty (CalG P w K mg base 5 C_renamed "renamed") := by
  obtain ⟨fd, F⟩ := c.def_ 14 (d := d_renamed) rfl
  exact cal_of (k := 4) (mo_of X G c) F (glo_of X G c (by decide +kernel)) S_renamed (.cons h_check_table (by decide) (.cons h_are_all (by decide) (.cons h_raw_renamed (by decide) (.nil)))) (congrArg (mk [C_check_table, C_are_all, C_raw_renamed] 2 2) r_renamed) fun _ _ _ _ _ _ us hl => match us, hl with | [_, _], _ => rfl
theorem k__law_any (X : K.In h) (G : h.Ns mainGlobals mg) (c : He.SaysD fa fn K) (h__law_draw : Nonempty (CalG P w K mg base 1 C__law_draw "_law_draw")) : Nonempty (CalG P w K mg base 2 C__law_any "_law_any") := by
  obtain ⟨fd, F⟩ := c.def_ 15 (d := d__law_any) rfl
  exact cal_of (k := 1) (mo_of X G c) F (glo_of X G c (by decide +kernel)) S__law_any (.cons h__law_draw (by decide) (.nil)) (congrArg (mk [C__law_draw] 2 2) r__law_any) fun _ _ _ _ _ _ us hl => match us, hl with | [_, _], _ => rfl
theorem k__law_names (X : K.In h) (G : h.Ns mainGlobals mg) (c : He.SaysD fa fn K) : Nonempty (CalG P w K mg base 1 C__law_names "_law_names") := by
  obtain ⟨fd, F⟩ := c.def_ 16 (d := d__law_names) rfl
  exact cal_of (k := 0) (mo_of X G c) F (glo_of X G c (by decide +kernel)) S__law_names (.nil) (congrArg (mk [] 6 1) r__law_names) fun _ _ _ _ _ _ us hl => match us, hl with | [_], _ => rfl
theorem k__law_fits (X : K.In h) (G : h.Ns mainGlobals mg) (c : He.SaysD fa fn K) : Nonempty (CalG P w K mg base 1 C__law_fits "_law_fits") := by
  obtain ⟨fd, F⟩ := c.def_ 17 (d := d__law_fits) rfl
  exact cal_of (k := 0) (mo_of X G c) F (glo_of X G c (by decide +kernel)) S__law_fits (.nil) (congrArg (mk [] 8 2) r__law_fits) fun _ _ _ _ _ _ us hl => match us, hl with | [_, _], _ => rfl
theorem k_check_both (X : K.In h) (G : h.Ns mainGlobals mg) (c : He.SaysD fa fn K) (h_check_table : Nonempty (CalG P w K mg base 4 C_check_table "check_table")) : Nonempty (CalG P w K mg base 5 C_check_both "check_both") := by
  obtain ⟨fd, F⟩ := c.def_ 18 (d := d_check_both) rfl
  exact cal_of (k := 4) (mo_of X G c) F (glo_of X G c (by decide +kernel)) S_check_both (.cons h_check_table (by decide) (.nil)) (congrArg (mk [C_check_table] 2 2) r_check_both) fun _ _ _ _ _ _ us hl => match us, hl with | [_, _], _ => rfl
theorem k_all_fits (X : K.In h) (G : h.Ns mainGlobals mg) (c : He.SaysD fa fn K) : Nonempty (CalG P w K mg base 1 C_all_fits "all_fits") := by
  obtain ⟨fd, F⟩ := c.def_ 19 (d := d_all_fits) rfl
  exact cal_of (k := 0) (mo_of X G c) F (glo_of X G c (by decide +kernel)) S_all_fits (.nil) (congrArg (mk [] 8 2) r_all_fits) fun _ _ _ _ _ _ us hl => match us, hl with | [_, _], _ => rfl
theorem k_fits_count (X : K.In h) (G : h.Ns mainGlobals mg) (c : He.SaysD fa fn K) (h_check_both : Nonempty (CalG P w K mg base 5 C_check_both "check_both")) (h_all_fits : Nonempty (CalG P w K mg base 1 C_all_fits "all_fits")) : Nonempty (CalG P w K mg base 6 C_fits_count "fits_count") := by
  obtain ⟨fd, F⟩ := c.def_ 20 (d := d_fits_count) rfl
  exact cal_of (k := 5) (mo_of X G c) F (glo_of X G c (by decide +kernel)) S_fits_count (.cons h_check_both (by decide) (.cons h_all_fits (by decide) (.nil))) (congrArg (mk [C_check_both, C_all_fits] 2 2) r_fits_count) fun _ _ _ _ _ _ us hl => match us, hl with | [_, _], _ => rfl
theorem k_fits_in (X : K.In h) (G : h.Ns mainGlobals mg) (c : He.SaysD fa fn K) (h_check_both : Nonempty (CalG P w K mg base 5 C_check_both "check_both")) (h_all_fits : Nonempty (CalG P w K mg base 1 C_all_fits "all_fits")) : Nonempty (CalG P w K mg base 6 C_fits_in "fits_in") := by
  obtain ⟨fd, F⟩ := c.def_ 21 (d := d_fits_in) rfl
  exact cal_of (k := 5) (mo_of X G c) F (glo_of X G c (by decide +kernel)) S_fits_in (.cons h_check_both (by decide) (.cons h_all_fits (by decide) (.nil))) (congrArg (mk [C_check_both, C_all_fits] 3 2) r_fits_in) fun _ _ _ _ _ _ us hl => match us, hl with | [_, _], _ => rfl
theorem k_all_names (X : K.In h) (G : h.Ns mainGlobals mg) (c : He.SaysD fa fn K) : Nonempty (CalG P w K mg base 1 C_all_names "all_names") := by
  obtain ⟨fd, F⟩ := c.def_ 22 (d := d_all_names) rfl
  exact cal_of (k := 0) (mo_of X G c) F (glo_of X G c (by decide +kernel)) S_all_names (.nil) (congrArg (mk [] 8 2) r_all_names) fun _ _ _ _ _ _ us hl => match us, hl with | [_, _], _ => rfl
theorem k_keepers (X : K.In h) (G : h.Ns mainGlobals mg) (c : He.SaysD fa fn K) (h_check_table : Nonempty (CalG P w K mg base 4 C_check_table "check_table")) (h_all_names : Nonempty (CalG P w K mg base 1 C_all_names "all_names")) : Nonempty (CalG P w K mg base 5 C_keepers "keepers") := by
  obtain ⟨fd, F⟩ := c.def_ 23 (d := d_keepers) rfl
  exact cal_of (k := 4) (mo_of X G c) F (glo_of X G c (by decide +kernel)) S_keepers (.cons h_check_table (by decide) (.cons h_all_names (by decide) (.nil))) (congrArg (mk [C_check_table, C_all_names] 1 1) r_keepers) fun _ _ _ _ _ _ us hl => match us, hl with | [_], _ => rfl
theorem law_ok (X : K.In h) (G : h.Ns mainGlobals mg) (c : He.SaysD fa fn K) : ∃ fd, (∀ (s : Shared) (v : Value), BindsTo s fd ⟨[v], []⟩ [("script", v)]) ∧ ∀ base : Heap, FnOk P w K mg base CXn 7 (He.ga K "law") fd ["script"] (spC K C_law) := by
  obtain ⟨fd, F⟩ := c.def_ 24 (d := d_law) rfl
  refine ⟨fd, law_of (k := 6) (Γ := [C__law_hand, C__law_raw, C__law_draw, C_part, C_renamed, C__law_any, C__law_names, C__law_fits, C_fits_count, C_fits_in, C_keepers]) (mo_of X G c) F S_law (fun base => ?_) (congrArg (mk [C__law_hand, C__law_raw, C__law_draw, C_part, C_renamed, C__law_any, C__law_names, C__law_fits, C_fits_count, C_fits_in, C_keepers] 8 1) r_law) fun _ _ _ _ _ _ us hl => match us, hl with | [_], _ => rfl⟩
  have h__law_hand := k__law_hand (P := P) (w := w) (base := base) X G c
  have h__law_draw := k__law_draw (P := P) (w := w) (base := base) X G c
  have h__law_raw := k__law_raw (P := P) (w := w) (base := base) X G c h__law_draw
  have h_is_sized := k_is_sized (P := P) (w := w) (base := base) X G c
  have h_is_integer := k_is_integer (P := P) (w := w) (base := base) X G c
  have h_is_within := k_is_within (P := P) (w := w) (base := base) X G c h_is_integer
  have h_is_table := k_is_table (P := P) (w := w) (base := base) X G c h_is_sized h_is_within
  have h_check_table := k_check_table (P := P) (w := w) (base := base) X G c h_is_table
  have h_is_lot := k_is_lot (P := P) (w := w) (base := base) X G c h_is_within
  have h_check_lot := k_check_lot (P := P) (w := w) (base := base) X G c h_is_lot
  have h_raw_part := k_raw_part (P := P) (w := w) (base := base) X G c
  have h_part := k_part (P := P) (w := w) (base := base) X G c h_check_table h_check_lot h_raw_part
  have h_are_all := k_are_all (P := P) (w := w) (base := base) X G c h_is_within h_is_sized
  have h_raw_renamed := k_raw_renamed (P := P) (w := w) (base := base) X G c h_raw_part
  have h_renamed := k_renamed (P := P) (w := w) (base := base) X G c h_check_table h_are_all h_raw_renamed
  have h__law_any := k__law_any (P := P) (w := w) (base := base) X G c h__law_draw
  have h__law_names := k__law_names (P := P) (w := w) (base := base) X G c
  have h__law_fits := k__law_fits (P := P) (w := w) (base := base) X G c
  have h_check_both := k_check_both (P := P) (w := w) (base := base) X G c h_check_table
  have h_all_fits := k_all_fits (P := P) (w := w) (base := base) X G c
  have h_fits_count := k_fits_count (P := P) (w := w) (base := base) X G c h_check_both h_all_fits
  have h_fits_in := k_fits_in (P := P) (w := w) (base := base) X G c h_check_both h_all_fits
  have h_all_names := k_all_names (P := P) (w := w) (base := base) X G c
  have h_keepers := k_keepers (P := P) (w := w) (base := base) X G c h_check_table h_all_names
  exact .cons h__law_hand (by decide) (.cons h__law_raw (by decide) (.cons h__law_draw (by decide) (.cons h_part (by decide) (.cons h_renamed (by decide) (.cons h__law_any (by decide) (.cons h__law_names (by decide) (.cons h__law_fits (by decide) (.cons h_fits_count (by decide) (.cons h_fits_in (by decide) (.cons h_keepers (by decide) (.nil)))))))))))
end
def loose0 : List Str := ["is_integer", "is_within", "is_sized", "is_lot", "are_all", "FarError", "NoLot", "NoNames", "NoTable", "MOST_PLACES", "MOST_FAR", "is_table", "check_table", "check_both", "raw_part", "check_lot", "part", "raw_renamed", "renamed", "all_names", "keepers", "all_fits", "fits_in", "fits_count", "_law_hand", "_law_draw", "_law_any", "_law_raw", "_law_names", "_law_fits"]
def loose : List Str := loose0
/-! ### the head -/
abbrev R : PySem.W.OpenRow := PySem.W.OpenLaw.row PySem.Challenge.rw_farhouse_k63_whole_tables_that_fit_in_ot
abbrev hk : PySem.W.Hook := He.hookD 4 fa fn
def ob (s : PySem.W.SharedT) : He.AlD := He.obsDG 4 fa fn (HandSHeadRun.getT s)
theorem ob_eq (s : PySem.W.SharedT) : ob s = hk.obs s.abs := He.obsDG_eq (HandSHeadRun.getT_eq s)
theorem run (w : World) : HandSHeadRun.RunEq R (PySem.W.view R.prog [35]) hk ob 4000 loose w := by
  intro os
  kernel_rfl
theorem claim (ev : ∀ ns : List Int, ns.length ≤ 63 → ∃ os, C_law [ro ns] = some (B true, os)) : PySem.Challenge.rw_farhouse_k63_whole_tables_that_fit_in_ot.Holds := by
  w_on; o_law
  refine HandSHeadRun.head_any (r := PySem.W.OpenLaw.row PySem.Challenge.rw_farhouse_k63_whole_tables_that_fit_in_ot) (q := PySem.W.view (PySem.W.OpenLaw.row PySem.Challenge.rw_farhouse_k63_whole_tables_that_fit_in_ot).prog [35]) (H := hk) (ob := ob) (M := 4000) (loose := loose) (d := HandSHeadRun.topDef (PySem.W.OpenLaw.row PySem.Challenge.rw_farhouse_k63_whole_tables_that_fit_in_ot).prog 35) (kwd := []) ob_eq
    (by kernel_rfl) (fun s => by kernel_rfl) run (by kernel_rfl) (by kernel_rfl) (by kernel_rfl) (by rfl) (by first | assumption | decide +kernel) (by decide +kernel) ⟨rfl, rfl, rfl, rfl, rfl, by decide +kernel⟩ ?hw ?hc
  case hw => w_witness2
  case hc =>
    refine L2.walk_ofE (l := PySem.Challenge.rw_farhouse_k63_whole_tables_that_fit_in_ot) (n := 63) (k := 7) (x := "script") (CX := PF.CXn) rfl (by decide) (by kernel_rfl) ⟨rfl, by decide, by decide⟩ ?F (fun _ _ _ _ z => z)
    intro w mg fa h Y G hmg0
    obtain ⟨K, KX, c⟩ := Y
    have hmg : mg ("law" : PySem.Str) = some (.ref fa) := by
      have e : (HandSHeadRun.topDef (PySem.W.OpenLaw.row PySem.Challenge.rw_farhouse_k63_whole_tables_that_fit_in_ot).prog 35).name = ("law" : PySem.Str) := by kernel_rfl
      rw [← e]
      exact hmg0
    have hga := hmg.symm.trans (glo_of KX G c (x := "law") (by decide +kernel))
    cases hga
    obtain ⟨fd, hb, hF⟩ := law_ok (P := (PySem.Challenge.rw_farhouse_k63_whole_tables_that_fit_in_ot).prog) (w := w) KX G c
    exact ⟨K, fd, spC K C_law, KX, hb, fun H a ns hl hO hS => law_sp hO hS (ev ns hl).choose_spec, fun base _ _ => hF base⟩
end K63

set_option Elab.async false
set_option linter.all false
set_option maxRecDepth 100000
namespace K63
open PF
/-! ### tables -/
def rowT (n : Nat) (f : Nat → Int) : T := .tup ((List.range n).map fun j => .int (f j))
def tabT (n : Nat) (f : Nat → Nat → Int) : T := .tup ((List.range n).map fun i => rowT n (f i))
def natT (xs : List Nat) : T := .tup (xs.map fun (k : Nat) => .int (k : Int))
theorem item_tab {n i : Nat} {f : Nat → Nat → Int} (h : i < n) : itemD [.p (tabT n f), .p (.int (i : Int))] = some (.p (rowT n (f i))) := by
  simp [itemD, tabT, atI_nat (xs := (List.range n).map fun i => rowT n (f i)) (i := i) (by simpa using h), h]
theorem item_row {n i : Nat} {f : Nat → Int} (h : i < n) : itemD [.p (rowT n f), .p (.int (i : Int))] = some (.p (.int (f i))) := by
  simp [itemD, rowT, atI_nat (xs := (List.range n).map fun i => T.int (f i)) (i := i) (by simpa using h), h]
theorem item_nat {xs : List Nat} {k : Nat} (h : k < xs.length) : itemD [.p (natT xs), .p (.int (k : Int))] = some (.p (.int (xs[k]?.getD 0 : Nat))) := by
  simp [itemD, natT, atI_nat (xs := xs.map fun (i : Nat) => T.int (i : Int)) (i := k) (by simpa using h), h]
theorem c_is_integer (x : Int) : C_is_integer [.p (.int x)] = some (.p (.bl true), [none]) := by
  rfl
theorem c_is_within (x lo hi : Int) : C_is_within [.p (.int x), .p (.int lo), .p (.int hi)] = some (.p (.bl (decide (lo ≤ x) && decide (x ≤ hi))), [none, none, none]) := by
  by_cases h1 : lo ≤ x <;> by_cases h2 : x ≤ hi <;> simp [C_is_within, b_is_within, mk, startS, run_1, run_2, run_3, run_4, run_5, run_6, run_7, run_8, run_9, run_12, run_13, run_14, run_15, run_16, run_17, runs_1, runs_2, ev_1, ev_2, ev_3, ev_4, ev_5, ev_6, ev_7, ev_8, ev_9, ev_10, ev_11, ev_12, ev_13, ev_15, evL_1, evL_2, ownL, evT_1, evT_2, evOwn_1, evTest_1, look, put, kill, callD, vals, valR, left, stsO, stO, isP, PF.own, truR, truD, nms, nodupB, back, opD, cmpD, addD, subD, negD, isD, isiD, isiB, tyName, lenD, I, B, L, pures_map, lent, mkTup, pures, unpk, putAll, Tg.own, Tgt.st, killO, eqOp, allD, items, seqT, tupleD, listD, c_is_integer, h1, h2]
theorem c_is_sized (xs : List T) (lo hi : Int) : C_is_sized [.p (.tup xs), .p (.int lo), .p (.int hi)] = some (.p (.bl (decide (lo ≤ xs.length) && decide ((xs.length : Int) ≤ hi))), [none, none, none]) := by
  by_cases h1 : lo ≤ (xs.length : Int) <;> by_cases h2 : (xs.length : Int) ≤ hi <;> simp [C_is_sized, b_is_sized, mk, startS, run_1, run_2, run_3, run_4, run_5, run_6, run_7, run_8, run_9, run_12, run_13, run_14, run_15, run_16, run_17, runs_1, runs_2, ev_1, ev_2, ev_3, ev_4, ev_5, ev_6, ev_7, ev_8, ev_9, ev_10, ev_11, ev_12, ev_13, ev_15, evL_1, evL_2, ownL, evT_1, evT_2, evOwn_1, evTest_1, look, put, kill, callD, vals, valR, left, stsO, stO, isP, PF.own, truR, truD, nms, nodupB, back, opD, cmpD, addD, subD, negD, isD, isiD, isiB, tyName, lenD, I, B, L, pures_map, lent, mkTup, pures, unpk, putAll, Tg.own, Tgt.st, killO, eqOp, allD, items, seqT, tupleD, listD, h1, h2]
/-! ### all_fits and its kin -/
def ext (m : Nat) (c : List Nat → Nat → Bool) (row : List Nat) : List (List Nat) := ((List.range m).filter (c row)).map fun g => row ++ [g]
def lvl (m : Nat) (c : Nat → List Nat → Nat → Bool) : Nat → List (List Nat)
  | 0 => [[]]
  | p + 1 => (lvl m c p).flatMap (ext m (c p))
def cF (f g : Nat → Nat → Int) (p : Nat) (row : List Nat) (x : Nat) : Bool := !decide (x ∈ row) && (List.range p).all fun k => f k p == g (row[k]?.getD 0) x
theorem lvl_len {m : Nat} {c : Nat → List Nat → Nat → Bool} : ∀ (p : Nat), ∀ row ∈ lvl m c p, row.length = p ∧ ∀ x ∈ row, x < m
  | 0, row, h => by simp [lvl] at h; subst h; simp
  | p + 1, row, h => by
    simp only [lvl, List.mem_flatMap, ext, List.mem_map, List.mem_filter, List.mem_range] at h
    obtain ⟨r0, h1, x, ⟨h2, h3⟩, rfl⟩ := h
    obtain ⟨h4, h5⟩ := lvl_len p r0 h1
    refine ⟨by simp [h4], fun y hy => ?_⟩
    rcases List.mem_append.mp hy with hy | hy
    · exact h5 y hy
    · simp at hy; omega
theorem any_nat (row : List Nat) (x : Nat) : ((row.map fun (k : Nat) => T.int (k : Int)).any fun z => eqT z (.int (x : Int))) = decide (x ∈ row) := by
  induction row with
  | nil => rfl
  | cons a r ih =>
    rw [List.map_cons, List.any_cons, ih]
    simp only [eqT]
    rw [Bool.eq_iff_iff]
    simp
    constructor
    · rintro (h | h)
      · exact .inl (by omega)
      · exact .inr h
    · rintro (h | h)
      · exact .inl (by omega)
      · exact .inr h
theorem nin_nat {x : Nat} {row : List Nat} : inD true [.p (.int (x : Int)), .p (natT row)] = some (.p (.bl (!decide (x ∈ row)))) := by
  simp only [inD, natT, seqT, okT, if_true, any_nat, B]
theorem all_fits_comp {n m : Nat} {f g : Nat → Nat → Int} {p x : Nat} {row : List Nat} {fd : S} {lg : D} (hp : p < n) (hn : n ≤ 7) (hx : x < m) (hr : row.length = p) (hb : ∀ y ∈ row, y < m) : ev [] false (.comp (.op .eq [(.idx (.idx (.nm 0) (.nm 7)) (.nm 3)), (.idx (.idx (.nm 1) (.idx (.nm 5) (.nm 7))) (.nm 6))]) (.one 7) 1 [(.nm 3)] []) [.val (.p (tabT n f)), .val (.p (tabT m g)), fd, .val (.p (.int p)), .val lg, .val (.p (natT row)), .val (.p (.int x)), .no] =
      some (.rv (.l ((List.range p).map fun k => .p (.bl (f k p == g (row[k]?.getD 0) x)))), [.val (.p (tabT n f)), .val (.p (tabT m g)), fd, .val (.p (.int p)), .val lg, .val (.p (natT row)), .val (.p (.int x)), .no]) := by
  refine ev_compN (List.range p) (fun k => .p (.int (0 + (k : Nat)))) _ (w := .rng 0 p) rfl rfl (rs := [.rv (.p (.int p))]) rfl ?_ (by simp [LIM]; omega) rfl fun k hk => ⟨_, rfl, rfl, ?_⟩
  · simp [srcK, valR, rngS, rngOk]; omega
  · have hk : k < p := List.mem_range.mp hk
    have hg : row[k]?.getD 0 < m := hb _ (by rw [List.getElem?_eq_getElem (by omega)]; exact List.getElem_mem _)
    simp [mk, startS, run_1, run_2, run_3, run_4, run_5, run_6, run_7, run_8, run_9, run_12, run_13, run_14, run_15, run_16, run_17, runs_1, runs_2, ev_1, ev_2, ev_3, ev_4, ev_5, ev_6, ev_7, ev_8, ev_9, ev_10, ev_11, ev_12, ev_13, ev_15, evL_1, evL_2, ownL, evT_1, evT_2, evOwn_1, evTest_1, look, put, kill, callD, vals, valR, left, stsO, stO, isP, PF.own, truR, truD, nms, nodupB, back, opD, cmpD, addD, subD, negD, isD, isiD, isiB, tyName, lenD, I, B, L, pures_map, lent, mkTup, pures, unpk, putAll, Tg.own, Tgt.st, killO, eqOp, allD, items, seqT, tupleD, listD, item_tab (f := f) (show k < n by omega), item_row (f := f k) hp, item_nat (show k < row.length by omega), item_tab (f := g) hg, item_row (f := g (row[k]?.getD 0)) hx, eqD, okT, eqT]
theorem all_fits_cond {n m : Nat} {f g : Nat → Nat → Int} {p x : Nat} {row : List Nat} {fd : S} {lg : D} (hp : p < n) (hn : n ≤ 7) (hx : x < m) (hr : row.length = p) (hb : ∀ y ∈ row, y < m) :
    evTest [] (.and_ (.op .nin [(.nm 6), (.nm 5)]) (.op .all [(.comp (.op .eq [(.idx (.idx (.nm 0) (.nm 7)) (.nm 3)), (.idx (.idx (.nm 1) (.idx (.nm 5) (.nm 7))) (.nm 6))]) (.one 7) 1 [(.nm 3)] [])]))
      [.val (.p (tabT n f)), .val (.p (tabT m g)), fd, .val (.p (.int p)), .val lg, .val (.p (natT row)), .val (.p (.int x)), .no] = some (cF f g p row x, [.val (.p (tabT n f)), .val (.p (tabT m g)), fd, .val (.p (.int p)), .val lg, .val (.p (natT row)), .val (.p (.int x)), .no]) := by
  have e := all_fits_comp (f := f) (g := g) (fd := fd) (lg := lg) hp hn hx hr hb
  by_cases h1 : x ∈ row
  · simp [mk, startS, run_1, run_2, run_3, run_4, run_5, run_6, run_7, run_8, run_9, run_12, run_13, run_14, run_15, run_16, run_17, runs_1, runs_2, ev_1, ev_2, ev_3, ev_4, ev_5, ev_6, ev_7, ev_8, ev_9, ev_10, ev_11, ev_12, ev_13, ev_15, evL_1, evL_2, ownL, evT_1, evT_2, evOwn_1, evTest_1, look, put, kill, callD, vals, valR, left, stsO, stO, isP, PF.own, truR, truD, nms, nodupB, back, opD, cmpD, addD, subD, negD, isD, isiD, isiB, tyName, lenD, I, B, L, pures_map, lent, mkTup, pures, unpk, putAll, Tg.own, Tgt.st, killO, eqOp, allD, items, seqT, tupleD, listD, nin_nat, h1, cF]
  · have e3 : allD (·.all id) [.l ((List.range p).map fun k => .p (.bl (f k p == g (row[k]?.getD 0) x)))] = some (.p (.bl ((List.range p).all fun k => f k p == g (row[k]?.getD 0) x))) := by
      simp only [allD, items, pures_mapP, blsOf_map, Option.map_some, B, List.all_map, Function.comp_def, id]
    simp only [ev_1, ev_2, ev_3, ev_4, ev_5, ev_6, ev_7, ev_8, ev_9, ev_10, ev_11, ev_12, ev_13, ev_15, evL_1, evL_2, ownL, evT_1, evT_2, evOwn_1, evTest_1, look, vals, valR, opD, nin_nat, h1, truR, truD, Option.bind_some, decide_false, Bool.not_false, e, e3, cF, Bool.true_and]
def encR (row : List Nat) : D := .p (natT row)
theorem pures_encR (l : List (List Nat)) : pures (l.map encR) = some (l.map natT) := pures_mapP l natT
/-- one row, its goals -/
theorem fits_inner {Γ : List CT} {c src : Ex} {a b fd : S} {p m : Nat} {row : List Nat} {acc : List (List Nat)} {C : List Nat → Nat → Bool} (hm : m ≤ 7)
    (hsrc : evL Γ false [src] [a, b, fd, .val (.p (.int p)), .val (.l (acc.map encR)), .val (encR row), .no, .no] = some ([.rv (.p (.int m))], [a, b, fd, .val (.p (.int p)), .val (.l (acc.map encR)), .val (encR row), .no, .no]))
    (hc : ∀ x lg, x < m → evTest Γ c [a, b, fd, .val (.p (.int p)), .val lg, .val (encR row), .val (.p (.int (x : Nat))), .no] = some (C row x, [a, b, fd, .val (.p (.int p)), .val lg, .val (encR row), .val (.p (.int (x : Nat))), .no]))
    (hl : acc.length + m < LIM) (hr : row.length < 100) :
    PF.run Γ (.for_ (.one 6) 1 [src] [.ite c [.app 4 (.op .add [(.nm 5), (.tup [(.nm 6)])])] []] [6]) [a, b, fd, .val (.p (.int p)), .val (.l (acc.map encR)), .val (encR row), .no, .no] =
      some (.nx [a, b, fd, .val (.p (.int p)), .val (.l ((acc ++ ext m C row).map encR)), .val (encR row), .no, .no]) := by
  refine run_forD (n := m) (w := .rng 0 m) (fun k => [a, b, fd, .val (.p (.int p)), .val (.l ((acc ++ ((List.range k).filter (C row)).map fun g => row ++ [g]).map encR)), .val (encR row), .no, .no]) rfl hsrc ?_ rfl (by simp [kill, put]) (fun x hx => ?_) rfl
  · simp [srcK, valR, rngS, rngOk]; omega
  · have hf : ((List.range x).filter (C row)).length ≤ x := by
      have := List.length_filter_le (C row) (List.range x)
      simpa using this
    refine ⟨.p (.int (x : Nat)), _, (if C row x = true then .nx [a, b, fd, .val (.p (.int p)), .val (.l ((acc ++ ((List.range (x + 1)).filter (C row)).map fun g => row ++ [g]).map encR)), .val (encR row), .val (.p (.int (x : Nat))), .no] else .nx [a, b, fd, .val (.p (.int p)), .val (.l ((acc ++ ((List.range (x + 1)).filter (C row)).map fun g => row ++ [g]).map encR)), .val (encR row), .val (.p (.int (x : Nat))), .no]), by simp [Wk.at, hx, I], rfl, ?_, ?_⟩
    · rw [List.range_succ, List.filter_append]
      cases h : C row x with
      | true =>
        have e1 : ∀ lg : D, evOwn Γ (.op .add [(.nm 5), (.tup [(.nm 6)])]) [a, b, fd, .val (.p (.int p)), .val lg, .val (encR row), .val (.p (.int (x : Nat))), .no] = some (encR (row ++ [x]), [a, b, fd, .val (.p (.int p)), .val lg, .val (encR row), .val (.p (.int (x : Nat))), .no]) := fun lg => by
          have hL : row.length + 1 ≤ LIM := by simp [LIM]; omega
          have hL1 : 1 ≤ LIM := by simp [LIM]
          simp [ev_1, ev_2, ev_3, ev_4, ev_5, ev_6, ev_7, ev_8, ev_9, ev_10, ev_11, ev_12, ev_13, ev_15, evL_1, evL_2, ownL, evT_1, evT_2, evOwn_1, evTest_1, look, encR, natT, vals, valR, opD, addD, mkTup, pures, PF.own, hL, hL1]
        have hL2 : acc.length + ((List.range x).filter (C row)).length < LIM := by omega
        simp [runs_1, runs_2, run_9, run_6, hc x _ hx, h, put, e1, look, hL2]
      | false => simp [runs_1, runs_2, run_9, hc x _ hx, h, put]
    · cases C row x <;> simp [killO, kill, put]
/-- all rows -/
theorem fits_mid {Γ : List CT} {c src : Ex} {a b : S} {p m : Nat} {F : List (List Nat)} {C : List Nat → Nat → Bool} (hm : m ≤ 7)
    (hsrc : ∀ lg rw, evL Γ false [src] [a, b, .val (.l (F.map encR)), .val (.p (.int p)), .val lg, .val rw, .no, .no] = some ([.rv (.p (.int m))], [a, b, .val (.l (F.map encR)), .val (.p (.int p)), .val lg, .val rw, .no, .no]))
    (hc : ∀ row ∈ F, ∀ x lg, x < m → evTest Γ c [a, b, .val (.l (F.map encR)), .val (.p (.int p)), .val lg, .val (encR row), .val (.p (.int (x : Nat))), .no] = some (C row x, [a, b, .val (.l (F.map encR)), .val (.p (.int p)), .val lg, .val (encR row), .val (.p (.int (x : Nat))), .no]))
    (hl : (F.flatMap (ext m C)).length + m < LIM) (hr : ∀ row ∈ F, row.length < 100) :
    PF.run Γ (.for_ (.one 5) 0 [.nm 2] [.for_ (.one 6) 1 [src] [.ite c [.app 4 (.op .add [(.nm 5), (.tup [(.nm 6)])])] []] [6]] [5, 6]) [a, b, .val (.l (F.map encR)), .val (.p (.int p)), .val (.l []), .no, .no, .no] =
      some (.nx [a, b, .val (.l (F.map encR)), .val (.p (.int p)), .val (.l ((F.flatMap (ext m C)).map encR)), .no, .no, .no]) := by
  have key := run_forD (Γ := Γ) (tg := .one 5) (kind := 0) (src := [.nm 2]) (body := [.for_ (.one 6) 1 [src] [.ite c [.app 4 (.op .add [(.nm 5), (.tup [(.nm 6)])])] []] [6]]) (dead := [5, 6]) (n := F.length) (w := .one (.live 2 F.length)) (rs := [.nm 2])
    (ρ := [a, b, .val (.l (F.map encR)), .val (.p (.int p)), .val (.l []), .no, .no, .no]) (ρ1 := [a, b, .val (.l (F.map encR)), .val (.p (.int p)), .val (.l []), .no, .no, .no])
    (fun r => [a, b, .val (.l (F.map encR)), .val (.p (.int p)), .val (.l (((F.take r).flatMap (ext m C)).map encR)), .no, .no, .no]) rfl (by simp [ev_1, ev_2, ev_3, ev_4, ev_5, ev_6, ev_7, ev_8, ev_9, ev_10, ev_11, ev_12, ev_13, ev_15, evL_1, evL_2, ownL, evT_1, evT_2, evOwn_1, evTest_1, look]) (by simp [srcK, sqOf, look, pures_encR]) rfl (by simp [kill, put]) (fun r hrl => ?_) (by simp [Wk.ok, Sq.ok, look])
  · rw [List.take_length] at key
    exact key
  · have hrow : F[r] ∈ F := List.getElem_mem hrl
    have hle : (((F.take r).flatMap (ext m C))).length ≤ (F.flatMap (ext m C)).length := by
      conv => rhs; rw [← List.take_append_drop r F, List.flatMap_append, List.length_append]
      omega
    refine ⟨encR F[r], _, .nx [a, b, .val (.l (F.map encR)), .val (.p (.int p)), .val (.l (((F.take r).flatMap (ext m C) ++ ext m C F[r]).map encR)), .val (encR F[r]), .no, .no], by simp [Wk.at, Sq.at, liveAt, look, hrl, encR], rfl, ?_, ?_⟩
    · simp only [put, runs_2, runs_1, Bool.false_eq_true, if_false]
      rw [fits_inner (C := C) hm (hsrc _ _) (hc _ hrow) (by omega) (hr _ hrow)]
    · simp only [killO, kill, put]
      rw [List.take_succ_eq_append_getElem hrl, List.flatMap_append]
      simp
theorem lvl_le {m : Nat} {c : Nat → List Nat → Nat → Bool} : ∀ p : Nat, (lvl m c p).length ≤ m ^ p
  | 0 => by simp [lvl]
  | p + 1 => by
    have ih := lvl_le (m := m) (c := c) p
    have h : ∀ F : List (List Nat), (F.flatMap (ext m (c p))).length ≤ F.length * m := fun F => by
      induction F with
      | nil => simp
      | cons r F ihF =>
        rw [List.flatMap_cons, List.length_append, List.length_cons, Nat.add_mul]
        have : (ext m (c p) r).length ≤ m := by
          unfold ext
          rw [List.length_map]
          have := List.length_filter_le (c p r) (List.range m)
          simpa using this
        omega
    simp only [lvl]
    calc _ ≤ (lvl m c p).length * m := h _
      _ ≤ m ^ p * m := Nat.mul_le_mul_right _ ih
      _ = m ^ (p + 1) := by rw [Nat.pow_succ]
theorem lvl_lim {m n p : Nat} {c : Nat → List Nat → Nat → Bool} (hm : m ≤ 7) (hn : n ≤ 7) (hp : p ≤ n) : (lvl m c p).length + m < LIM := by
  have h1 := lvl_le (m := m) (c := c) p
  have h2 : m ^ p ≤ 7 ^ p := Nat.pow_le_pow_left hm p
  have h3 : 7 ^ p ≤ 7 ^ 7 := Nat.pow_le_pow_right (by decide) (by omega)
  have h4 : (7 : Nat) ^ 7 = 823543 := by decide
  have h5 : LIM = 16777216 := rfl
  omega
/-- all of it -/
theorem fits_all {Γ : List CT} {c src : Ex} {a b : S} {n m : Nat} {C : Nat → List Nat → Nat → Bool} (hm : m ≤ 7) (hn : n ≤ 7)
    (h0 : ∀ s2, evL Γ false [.op .len [.nm 0]] [a, b, s2, .no, .no, .no, .no, .no] = some ([.rv (.p (.int n))], [a, b, s2, .no, .no, .no, .no, .no]))
    (hsrc : ∀ fd p lg rw, evL Γ false [src] [a, b, fd, .val (.p (.int p)), .val lg, .val rw, .no, .no] = some ([.rv (.p (.int m))], [a, b, fd, .val (.p (.int p)), .val lg, .val rw, .no, .no]))
    (hc : ∀ p, p < n → ∀ row ∈ lvl m C p, ∀ fd x lg, x < m → evTest Γ c [a, b, fd, .val (.p (.int (p : Nat))), .val lg, .val (encR row), .val (.p (.int (x : Nat))), .no] = some (C p row x, [a, b, fd, .val (.p (.int (p : Nat))), .val lg, .val (encR row), .val (.p (.int (x : Nat))), .no])) :
    PF.run Γ (.for_ (.one 3) 1 [.op .len [.nm 0]] [.asg 4 (.lst []), .for_ (.one 5) 0 [.nm 2] [.for_ (.one 6) 1 [src] [.ite c [.app 4 (.op .add [(.nm 5), (.tup [(.nm 6)])])] []] [6]] [5, 6], .asg 2 (.nm 4)] [3, 4, 5, 6]) [a, b, .val (.l [encR []]), .no, .no, .no, .no, .no] =
      some (.nx [a, b, .val (.l ((lvl m C n).map encR)), .no, .no, .no, .no, .no]) := by
  refine run_forD (n := n) (w := .rng 0 n) (fun p => [a, b, .val (.l ((lvl m C p).map encR)), .no, .no, .no, .no, .no]) rfl (h0 _) ?_ rfl (by simp [kill, put, lvl]) (fun p hp => ?_) rfl
  · simp [srcK, valR, rngS, rngOk]; omega
  · refine ⟨.p (.int (p : Nat)), _, .nx [a, b, .val (.l ((lvl m C (p + 1)).map encR)), .val (.p (.int (p : Nat))), .no, .no, .no, .no], by simp [Wk.at, hp, I], rfl, ?_, by simp [killO, kill, put]⟩
    have e1 : ∀ st : List S, evOwn Γ (.lst []) st = some (.l [], st) := fun st => by
      have : 0 ≤ LIM := Nat.zero_le _
      simp [ev_1, ev_2, ev_3, ev_4, ev_5, ev_6, ev_7, ev_8, ev_9, ev_10, ev_11, ev_12, ev_13, ev_15, evL_1, evL_2, ownL, evT_1, evT_2, evOwn_1, evTest_1, PF.own]
    simp only [put, runs_2, runs_1, run_1, e1, Bool.false_eq_true, if_false]
    rw [fits_mid (C := C p) hm (fun lg rw' => hsrc _ _ _ _) (fun row hrow x lg hx => hc p hp row hrow _ x lg hx) (by
      have := lvl_lim (c := C) hm hn (show p + 1 ≤ n by omega)
      exact this) (fun row hrow => by have := (lvl_len p row hrow).1; omega)]
    simp [runs_2, runs_1, run_1, ev_1, ev_2, ev_3, ev_4, ev_5, ev_6, ev_7, ev_8, ev_9, ev_10, ev_11, ev_12, ev_13, ev_15, evL_1, evL_2, ownL, evT_1, evT_2, evOwn_1, evTest_1, look, put, PF.own, lvl]
theorem law_fits_comp {n m : Nat} {f g : Nat → Nat → Int} {p x : Nat} {row : List Nat} {fd : S} {lg : D} (hp : p < n) (hn : n ≤ 7) (hx : x < m) (hr : row.length = p) (hb : ∀ y ∈ row, y < m) : ev [] false (.comp (.op .eq [(.idx (.idx (.nm 1) (.idx (.nm 5) (.nm 7))) (.nm 6)), (.idx (.idx (.nm 0) (.nm 7)) (.nm 3))]) (.one 7) 1 [(.nm 3)] []) [.val (.p (tabT n f)), .val (.p (tabT m g)), fd, .val (.p (.int p)), .val lg, .val (.p (natT row)), .val (.p (.int x)), .no] =
      some (.rv (.l ((List.range p).map fun k => .p (.bl (f k p == g (row[k]?.getD 0) x)))), [.val (.p (tabT n f)), .val (.p (tabT m g)), fd, .val (.p (.int p)), .val lg, .val (.p (natT row)), .val (.p (.int x)), .no]) := by
  refine ev_compN (List.range p) (fun k => .p (.int (0 + (k : Nat)))) _ (w := .rng 0 p) rfl rfl (rs := [.rv (.p (.int p))]) rfl ?_ (by simp [LIM]; omega) rfl fun k hk => ⟨_, rfl, rfl, ?_⟩
  · simp [srcK, valR, rngS, rngOk]; omega
  · have hk : k < p := List.mem_range.mp hk
    have hg : row[k]?.getD 0 < m := hb _ (by rw [List.getElem?_eq_getElem (by omega)]; exact List.getElem_mem _)
    simp [mk, startS, run_1, run_2, run_3, run_4, run_5, run_6, run_7, run_8, run_9, run_12, run_13, run_14, run_15, run_16, run_17, runs_1, runs_2, ev_1, ev_2, ev_3, ev_4, ev_5, ev_6, ev_7, ev_8, ev_9, ev_10, ev_11, ev_12, ev_13, ev_15, evL_1, evL_2, ownL, evT_1, evT_2, evOwn_1, evTest_1, look, put, kill, callD, vals, valR, left, stsO, stO, isP, PF.own, truR, truD, nms, nodupB, back, opD, cmpD, addD, subD, negD, isD, isiD, isiB, tyName, lenD, I, B, L, pures_map, lent, mkTup, pures, unpk, putAll, Tg.own, Tgt.st, killO, eqOp, allD, items, seqT, tupleD, listD, item_tab (f := f) (show k < n by omega), item_row (f := f k) hp, item_nat (show k < row.length by omega), item_tab (f := g) hg, item_row (f := g (row[k]?.getD 0)) hx, eqD, okT, eqT, BEq.comm (a := f k p)]
theorem law_fits_cond {n m : Nat} {f g : Nat → Nat → Int} {p x : Nat} {row : List Nat} {fd : S} {lg : D} (hp : p < n) (hn : n ≤ 7) (hx : x < m) (hr : row.length = p) (hb : ∀ y ∈ row, y < m) :
    evTest [] (.and_ (.op .nin [(.nm 6), (.nm 5)]) (.op .all [(.comp (.op .eq [(.idx (.idx (.nm 1) (.idx (.nm 5) (.nm 7))) (.nm 6)), (.idx (.idx (.nm 0) (.nm 7)) (.nm 3))]) (.one 7) 1 [(.nm 3)] [])]))
      [.val (.p (tabT n f)), .val (.p (tabT m g)), fd, .val (.p (.int p)), .val lg, .val (.p (natT row)), .val (.p (.int x)), .no] = some (cF f g p row x, [.val (.p (tabT n f)), .val (.p (tabT m g)), fd, .val (.p (.int p)), .val lg, .val (.p (natT row)), .val (.p (.int x)), .no]) := by
  have e := law_fits_comp (f := f) (g := g) (fd := fd) (lg := lg) hp hn hx hr hb
  by_cases h1 : x ∈ row
  · simp [mk, startS, run_1, run_2, run_3, run_4, run_5, run_6, run_7, run_8, run_9, run_12, run_13, run_14, run_15, run_16, run_17, runs_1, runs_2, ev_1, ev_2, ev_3, ev_4, ev_5, ev_6, ev_7, ev_8, ev_9, ev_10, ev_11, ev_12, ev_13, ev_15, evL_1, evL_2, ownL, evT_1, evT_2, evOwn_1, evTest_1, look, put, kill, callD, vals, valR, left, stsO, stO, isP, PF.own, truR, truD, nms, nodupB, back, opD, cmpD, addD, subD, negD, isD, isiD, isiB, tyName, lenD, I, B, L, pures_map, lent, mkTup, pures, unpk, putAll, Tg.own, Tgt.st, killO, eqOp, allD, items, seqT, tupleD, listD, nin_nat, h1, cF]
  · have e3 : allD (·.all id) [.l ((List.range p).map fun k => .p (.bl (f k p == g (row[k]?.getD 0) x)))] = some (.p (.bl ((List.range p).all fun k => f k p == g (row[k]?.getD 0) x))) := by
      simp only [allD, items, pures_mapP, blsOf_map, Option.map_some, B, List.all_map, Function.comp_def, id]
    simp only [ev_1, ev_2, ev_3, ev_4, ev_5, ev_6, ev_7, ev_8, ev_9, ev_10, ev_11, ev_12, ev_13, ev_15, evL_1, evL_2, ownL, evT_1, evT_2, evOwn_1, evTest_1, look, vals, valR, opD, nin_nat, h1, truR, truD, Option.bind_some, decide_false, Bool.not_false, e, e3, cF, Bool.true_and]
theorem tab_len {n : Nat} {f : Nat → Nat → Int} : lenD [.p (tabT n f)] = some (.p (.int n)) := by simp [lenD, tabT, I]
end K63

set_option Elab.async false
set_option linter.all false
set_option maxRecDepth 100000
namespace K63
open PF
theorem lim1 : 1 ≤ LIM := Nat.le_of_ble_eq_true rfl
theorem own_e0 {a b c d e f g h : S} : evOwn [] (.lst [.tup []]) [a, b, c, d, e, f, g, h] = some (.l [encR []], [a, b, c, d, e, f, g, h]) := by
  simp [ev_1, ev_2, ev_3, ev_4, ev_5, ev_6, ev_7, ev_8, ev_9, ev_10, ev_11, ev_12, ev_13, ev_15, evL_1, evL_2, ownL, evT_1, evT_2, evOwn_1, evTest_1, PF.own, mkTup, pures, lim1, encR, natT]
theorem c_all_fits {n m : Nat} {f g : Nat → Nat → Int} (hn : n ≤ 7) (hm : m ≤ 7) : C_all_fits [.p (tabT n f), .p (tabT m g)] = some (.l ((lvl m (cF f g) n).map encR), [none, none]) := by
  have e := fits_all (Γ := []) (c := (.and_ (.op .nin [(.nm 6), (.nm 5)]) (.op .all [(.comp (.op .eq [(.idx (.idx (.nm 0) (.nm 7)) (.nm 3)), (.idx (.idx (.nm 1) (.idx (.nm 5) (.nm 7))) (.nm 6))]) (.one 7) 1 [(.nm 3)] [])]))) (src := .op .len [.nm 1]) (a := .val (.p (tabT n f))) (b := .val (.p (tabT m g))) (n := n) (m := m) (C := cF f g) hm hn
    (fun s2 => by simp [ev_1, ev_2, ev_3, ev_4, ev_5, ev_6, ev_7, ev_8, ev_9, ev_10, ev_11, ev_12, ev_13, ev_15, evL_1, evL_2, ownL, evT_1, evT_2, evOwn_1, evTest_1, look, vals, valR, opD, tab_len]) (fun fd p lg rw' => by simp [ev_1, ev_2, ev_3, ev_4, ev_5, ev_6, ev_7, ev_8, ev_9, ev_10, ev_11, ev_12, ev_13, ev_15, evL_1, evL_2, ownL, evT_1, evT_2, evOwn_1, evTest_1, look, vals, valR, opD, tab_len])
    (fun p hp row hrow fd x lg hx => by
      obtain ⟨h1, h2⟩ := lvl_len p row hrow
      exact all_fits_cond hp hn hx h1 h2)
  refine mk_rt (ρ := [.val (.p (tabT n f)), .val (.p (tabT m g)), .no, .no, .no, .no, .no, .no]) (st := stsO b_all_fits) rfl rfl ?_ rfl rfl
  exact runs_nx (run_asg own_e0) (runs_nx e (runs_rt (run_ret (own_l rfl))))
theorem c__law_fits {n m : Nat} {f g : Nat → Nat → Int} (hn : n ≤ 7) (hm : m ≤ 7) : C__law_fits [.p (tabT n f), .p (tabT m g)] = some (.l ((lvl m (cF f g) n).map encR), [none, none]) := by
  have e := fits_all (Γ := []) (c := (.and_ (.op .nin [(.nm 6), (.nm 5)]) (.op .all [(.comp (.op .eq [(.idx (.idx (.nm 1) (.idx (.nm 5) (.nm 7))) (.nm 6)), (.idx (.idx (.nm 0) (.nm 7)) (.nm 3))]) (.one 7) 1 [(.nm 3)] [])]))) (src := .op .len [.nm 1]) (a := .val (.p (tabT n f))) (b := .val (.p (tabT m g))) (n := n) (m := m) (C := cF f g) hm hn
    (fun s2 => by simp [ev_1, ev_2, ev_3, ev_4, ev_5, ev_6, ev_7, ev_8, ev_9, ev_10, ev_11, ev_12, ev_13, ev_15, evL_1, evL_2, ownL, evT_1, evT_2, evOwn_1, evTest_1, look, vals, valR, opD, tab_len]) (fun fd p lg rw' => by simp [ev_1, ev_2, ev_3, ev_4, ev_5, ev_6, ev_7, ev_8, ev_9, ev_10, ev_11, ev_12, ev_13, ev_15, evL_1, evL_2, ownL, evT_1, evT_2, evOwn_1, evTest_1, look, vals, valR, opD, tab_len])
    (fun p hp row hrow fd x lg hx => by
      obtain ⟨h1, h2⟩ := lvl_len p row hrow
      exact law_fits_cond hp hn hx h1 h2)
  refine mk_rt (ρ := [.val (.p (tabT n f)), .val (.p (tabT m g)), .no, .no, .no, .no, .no, .no]) (st := stsO b__law_fits) rfl rfl ?_ rfl rfl
  exact runs_nx (run_asg own_e0) (runs_nx e (runs_rt (run_ret (own_l rfl))))
theorem c_all_names {n : Nat} {f g : Nat → Nat → Int} (hn : n ≤ 7) : C_all_names [.p (tabT n f), .p (tabT n g)] = some (.l ((lvl n (cF f g) n).map encR), [none, none]) := by
  have e := fits_all (Γ := []) (c := (.and_ (.op .nin [(.nm 6), (.nm 5)]) (.op .all [(.comp (.op .eq [(.idx (.idx (.nm 0) (.nm 7)) (.nm 3)), (.idx (.idx (.nm 1) (.idx (.nm 5) (.nm 7))) (.nm 6))]) (.one 7) 1 [(.nm 3)] [])]))) (src := .op .len [.nm 0]) (a := .val (.p (tabT n f))) (b := .val (.p (tabT n g))) (n := n) (m := n) (C := cF f g) hn hn
    (fun s2 => by simp [ev_1, ev_2, ev_3, ev_4, ev_5, ev_6, ev_7, ev_8, ev_9, ev_10, ev_11, ev_12, ev_13, ev_15, evL_1, evL_2, ownL, evT_1, evT_2, evOwn_1, evTest_1, look, vals, valR, opD, tab_len]) (fun fd p lg rw' => by simp [ev_1, ev_2, ev_3, ev_4, ev_5, ev_6, ev_7, ev_8, ev_9, ev_10, ev_11, ev_12, ev_13, ev_15, evL_1, evL_2, ownL, evT_1, evT_2, evOwn_1, evTest_1, look, vals, valR, opD, tab_len])
    (fun p hp row hrow fd x lg hx => by
      obtain ⟨h1, h2⟩ := lvl_len p row hrow
      exact all_fits_cond hp hn hx h1 h2)
  refine mk_rt (ρ := [.val (.p (tabT n f)), .val (.p (tabT n g)), .no, .no, .no, .no, .no, .no]) (st := stsO b_all_names) rfl rfl ?_ rfl rfl
  have et : evTest [] (.op .ne [.op .len [.nm 0], .op .len [.nm 1]]) [.val (.p (tabT n f)), .val (.p (tabT n g)), .no, .no, .no, .no, .no, .no] = some (false, [.val (.p (tabT n f)), .val (.p (tabT n g)), .no, .no, .no, .no, .no, .no]) := by
    simp [ev_1, ev_2, ev_3, ev_4, ev_5, ev_6, ev_7, ev_8, ev_9, ev_10, ev_11, ev_12, ev_13, ev_15, evL_1, evL_2, ownL, evT_1, evT_2, evOwn_1, evTest_1, look, vals, valR, opD, tab_len, eqOp, eqD, okT, eqT, truR, truD, B]
  refine runs_nx (run_ite_f et runs_0) ?_
  exact runs_nx (run_asg own_e0) (runs_nx e (runs_rt (run_ret (own_l rfl))))
end K63

set_option Elab.async false
set_option linter.all false
set_option maxRecDepth 100000
namespace K63
open PF
def hs (cells : List Int) (a : Nat) (b c e : Int) : D := .l [.l (cells.map fun i => .p (.int i)), .p (.int a), .p (.int b), .p (.int c), .p (.int e)]
def IsHand (h : D) : Prop := ∃ cells a b c e, h = hs cells a b c e
section
variable {cells : List Int} {a : Nat} {b c e m : Int} {ρ : List S} {q : Bool}
theorem h0 : ev [] q (.idx (.nm 0) (.cst (.int 0))) (.val (hs cells a b c e) :: ρ) = some (.bv (.l (cells.map fun i => .p (.int i))), .val (hs cells a b c e) :: ρ) := by
  simp [ev_1, ev_2, ev_3, ev_4, ev_5, ev_6, ev_7, ev_8, ev_9, ev_10, ev_11, ev_12, ev_13, ev_15, evL_1, evL_2, ownL, evT_1, evT_2, evOwn_1, evTest_1, look, hs, valR, L2.atI, L2.ixN]
theorem h1 : ev [] q (.idx (.nm 0) (.cst (.int 1))) (.val (hs cells a b c e) :: ρ) = some (.rv (.p (.int a)), .val (hs cells a b c e) :: ρ) := by
  simp [ev_1, ev_2, ev_3, ev_4, ev_5, ev_6, ev_7, ev_8, ev_9, ev_10, ev_11, ev_12, ev_13, ev_15, evL_1, evL_2, ownL, evT_1, evT_2, evOwn_1, evTest_1, look, hs, valR, L2.atI, L2.ixN]
theorem h2 : ev [] q (.idx (.nm 0) (.cst (.int 2))) (.val (hs cells a b c e) :: ρ) = some (.rv (.p (.int b)), .val (hs cells a b c e) :: ρ) := by
  simp [ev_1, ev_2, ev_3, ev_4, ev_5, ev_6, ev_7, ev_8, ev_9, ev_10, ev_11, ev_12, ev_13, ev_15, evL_1, evL_2, ownL, evT_1, evT_2, evOwn_1, evTest_1, look, hs, valR, L2.atI, L2.ixN]
theorem h3 : ev [] q (.idx (.nm 0) (.cst (.int 3))) (.val (hs cells a b c e) :: ρ) = some (.rv (.p (.int c)), .val (hs cells a b c e) :: ρ) := by
  simp [ev_1, ev_2, ev_3, ev_4, ev_5, ev_6, ev_7, ev_8, ev_9, ev_10, ev_11, ev_12, ev_13, ev_15, evL_1, evL_2, ownL, evT_1, evT_2, evOwn_1, evTest_1, look, hs, valR, L2.atI, L2.ixN]
theorem h4 : ev [] q (.idx (.nm 0) (.cst (.int 4))) (.val (hs cells a b c e) :: ρ) = some (.rv (.p (.int e)), .val (hs cells a b c e) :: ρ) := by
  simp [ev_1, ev_2, ev_3, ev_4, ev_5, ev_6, ev_7, ev_8, ev_9, ev_10, ev_11, ev_12, ev_13, ev_15, evL_1, evL_2, ownL, evT_1, evT_2, evOwn_1, evTest_1, look, hs, valR, L2.atI, L2.ixN]
theorem p1 {x : Nat} : store [] (.p (.int x)) (.val (hs cells a b c e) :: ρ) (.s1 0 (.cst (.int 1))) = some (.val (hs cells x b c e) :: ρ) := by
  simp [store, ev_1, ev_2, ev_3, ev_4, ev_5, ev_6, ev_7, ev_8, ev_9, ev_10, ev_11, ev_12, ev_13, ev_15, evL_1, evL_2, ownL, evT_1, evT_2, evOwn_1, evTest_1, look, hs, valR, L2.ixN, put]
theorem p2 {x : Int} : store [] (.p (.int x)) (.val (hs cells a b c e) :: ρ) (.s1 0 (.cst (.int 2))) = some (.val (hs cells a x c e) :: ρ) := by
  simp [store, ev_1, ev_2, ev_3, ev_4, ev_5, ev_6, ev_7, ev_8, ev_9, ev_10, ev_11, ev_12, ev_13, ev_15, evL_1, evL_2, ownL, evT_1, evT_2, evOwn_1, evTest_1, look, hs, valR, L2.ixN, put]
theorem p3 {x : Int} : store [] (.p (.int x)) (.val (hs cells a b c e) :: ρ) (.s1 0 (.cst (.int 3))) = some (.val (hs cells a b x e) :: ρ) := by
  simp [store, ev_1, ev_2, ev_3, ev_4, ev_5, ev_6, ev_7, ev_8, ev_9, ev_10, ev_11, ev_12, ev_13, ev_15, evL_1, evL_2, ownL, evT_1, evT_2, evOwn_1, evTest_1, look, hs, valR, L2.ixN, put]
theorem p4 {x : Int} : store [] (.p (.int x)) (.val (hs cells a b c e) :: ρ) (.s1 0 (.cst (.int 4))) = some (.val (hs cells a b c x) :: ρ) := by
  simp [store, ev_1, ev_2, ev_3, ev_4, ev_5, ev_6, ev_7, ev_8, ev_9, ev_10, ev_11, ev_12, ev_13, ev_15, evL_1, evL_2, ownL, evT_1, evT_2, evOwn_1, evTest_1, look, hs, valR, L2.ixN, put]
theorem hcell (h : a < cells.length) : ev [] false (.idx (.idx (.nm 0) (.cst (.int 0))) (.idx (.nm 0) (.cst (.int 1)))) (.val (hs cells a b c e) :: ρ) = some (.rv (.p (.int (cells[a]?.getD 0))), .val (hs cells a b c e) :: ρ) := by
  rw [ev_4, h0]
  simp only [h1, valR]
  have := atI_nat (xs := cells.map fun i => D.p (.int i)) (i := a) (by simpa using h)
  simp [this, h]
theorem run_asg1 {Γ : List CT} {t : Tgt} {e : Ex} {ρ ρ1 ρ2 : List S} {d : D} (h : evOwn Γ e ρ = some (d, ρ1)) (h2 : store Γ d ρ1 t = some ρ2) : PF.run Γ (.asg1 t e) ρ = some (.nx ρ2) := by
  rw [run_3, h]; simp [h2]
/-- the first step of a draw -/
theorem draw_a {s2 s3 s4 : S} : ∃ a' b' c' s3', PF.run [] (.ite (.and_ (.op .eq [(.idx (.nm 0) (.cst (.int 2))), (.cst (.int 0))]) (.op .lt [(.idx (.nm 0) (.cst (.int 1))), (.op .len [(.idx (.nm 0) (.cst (.int 0)))])])) [.asg 3 (.idx (.idx (.nm 0) (.cst (.int 0))) (.idx (.nm 0) (.cst (.int 1)))), .asg1 (.s1 0 (.cst (.int 1))) (.op .add [(.idx (.nm 0) (.cst (.int 1))), (.cst (.int 1))]), .asg1 (.s1 0 (.cst (.int 3))) (.op .mod [(.op .int [(.op .add [(.op .add [(.op .mul [(.idx (.nm 0) (.cst (.int 3))), (.cst (.int 69621))]), (.op .mul [(.nm 3), (.cst (.int 40692))])]), (.cst (.int 31))])]), (.cst (.int 2147483629))]), .ite (.op .ge [(.nm 3), (.op .pow [(.cst (.int 10)), (.cst (.int 18))])]) [.asg1 (.s1 0 (.cst (.int 2))) (.nm 3)] []] [])
    [.val (hs cells a b c e), .val (.p (.int m)), s2, s3, s4] = some (.nx [.val (hs cells a' b' c' e), .val (.p (.int m)), s2, s3', s4]) := by
  have c1 : ev [] false (.op .eq [(.idx (.nm 0) (.cst (.int 2))), (.cst (.int 0))]) [.val (hs cells a b c e), .val (.p (.int m)), s2, s3, s4] = some (.rv (.p (.bl (decide (b = 0)))), [.val (hs cells a b c e), .val (.p (.int m)), s2, s3, s4]) :=
    e_bin h2 e_cst (by simp [opD, eqOp, eqD, okT, eqT, B, beq_dec])
  have c2 : ev [] false (.op .lt [(.idx (.nm 0) (.cst (.int 1))), (.op .len [(.idx (.nm 0) (.cst (.int 0)))])]) [.val (hs cells a b c e), .val (.p (.int m)), s2, s3, s4] = some (.rv (.p (.bl (decide (a < cells.length)))), [.val (hs cells a b c e), .val (.p (.int m)), s2, s3, s4]) :=
    e_bin h1 (e_un_bv h0 (o := .len) (d := .p (.int cells.length)) (by simp [opD, lenD, I])) (by simp [opD, cmpD, B])
  by_cases hb : b = 0
  · by_cases ha : a < cells.length
    · simp only [hb, ha, decide_true] at c1 c2
      subst hb
      generalize hcl : cells[a]?.getD 0 = cl
      have e1 : ev [] false (.op .mod [(.op .int [(.op .add [(.op .add [(.op .mul [(.idx (.nm 0) (.cst (.int 3))), (.cst (.int 69621))]), (.op .mul [(.nm 3), (.cst (.int 40692))])]), (.cst (.int 31))])]), (.cst (.int 2147483629))]) [.val (hs cells (a + 1) 0 c e), .val (.p (.int m)), s2, .val (.p (.int cl)), s4] = some (.rv (.p (.int ((c * 69621 + cl * 40692 + 31) % 2147483629))), [.val (hs cells (a + 1) 0 c e), .val (.p (.int m)), s2, .val (.p (.int cl)), s4]) :=
        e_bin (e_un (e_bin (e_bin (e_bin h3 e_cst (x := .p (.int c)) (y := .p (.int 69621)) (d := .p (.int (c * 69621))) (by simp [opD, mulD, big64, I])) (e_bin (e_nm rfl) e_cst (x := .p (.int cl)) (y := .p (.int 40692)) (d := .p (.int (cl * 40692))) (by simp [opD, mulD, big64, I])) (d := .p (.int (c * 69621 + cl * 40692))) rfl) e_cst (d := .p (.int (c * 69621 + cl * 40692 + 31))) rfl) (d := .p (.int (c * 69621 + cl * 40692 + 31))) rfl) e_cst (by simp [opD, modD, I])
      have e2 : ∀ c', ev [] false (.op .ge [(.nm 3), (.op .pow [(.cst (.int 10)), (.cst (.int 18))])]) [.val (hs cells (a + 1) 0 c' e), .val (.p (.int m)), s2, .val (.p (.int cl)), s4] = some (.rv (.p (.bl (decide (10 ^ 18 ≤ cl)))), [.val (hs cells (a + 1) 0 c' e), .val (.p (.int m)), s2, .val (.p (.int cl)), s4]) := fun c' =>
        e_bin (e_nm rfl) (e_bin e_cst e_cst (x := .p (.int 10)) (y := .p (.int 18)) (d := .p (.int (10 ^ 18))) (by simp [opD, powD, powC, I])) (x := .p (.int cl)) rfl
      have e3 : ev [] false (.op .add [(.idx (.nm 0) (.cst (.int 1))), (.cst (.int 1))]) [.val (hs cells a 0 c e), .val (.p (.int m)), s2, .val (.p (.int cl)), s4] = some (.rv (.p (.int (a + 1 : Nat))), [.val (hs cells a 0 c e), .val (.p (.int m)), s2, .val (.p (.int cl)), s4]) := e_bin h1 e_cst (by simp [opD, addD, I])
      have e0 := hcell (b := 0) (c := c) (e := e) (ρ := [.val (.p (.int m)), s2, s3, s4]) ha
      rw [hcl] at e0
      by_cases hg : (10 : Int) ^ 18 ≤ cl
      · simp only [hg, decide_true] at e2
        exact ⟨a + 1, cl, _, _, run_ite_t (t_rv (e_andt c1 c2)) (runs_nx (r_asg e0) (runs_nx (run_asg1 (o_rv e3) p1) (runs_nx (run_asg1 (o_rv e1) p3) (runs_one (run_ite_t (t_rv (e2 _)) (runs_one (run_asg1 (o_rv (e_nm rfl)) p2)))))))⟩
      · simp only [hg, decide_false] at e2
        exact ⟨a + 1, 0, _, _, run_ite_t (t_rv (e_andt c1 c2)) (runs_nx (r_asg e0) (runs_nx (run_asg1 (o_rv e3) p1) (runs_nx (run_asg1 (o_rv e1) p3) (runs_one (run_ite_f (t_rv (e2 _)) runs_0)))))⟩
    · simp only [ha, decide_false] at c2
      simp only [hb, decide_true] at c1
      subst hb
      exact ⟨a, 0, c, s3, run_ite_f (t_rv (e_andt c1 c2)) runs_0⟩
  · simp only [hb, decide_false] at c1
    exact ⟨a, b, c, s3, run_ite_f (t_rv (e_andf c1)) runs_0⟩
/-- the draw from a big number -/
theorem draw_b {s2 s3 s4 : S} (hm : 0 < m) (hm2 : m.natAbs.log2 < 9000) (hb : 0 < b) : runs [] [.ite (.op .gt [(.idx (.nm 0) (.cst (.int 2))), (.cst (.int 0))]) [.asg 4 (.op .mod [(.op .int [(.idx (.nm 0) (.cst (.int 2)))]), (.nm 1)]), .asg1 (.s1 0 (.cst (.int 2))) (.op .fdiv [(.idx (.nm 0) (.cst (.int 2))), (.nm 1)]), .ret (.nm 4)] [], .asg1 (.s1 0 (.cst (.int 4))) (.op .add [(.idx (.nm 0) (.cst (.int 4))), (.cst (.int 1))]), .asg 2 (.op .mod [(.op .int [(.op .mul [(.op .int [(.op .add [(.idx (.nm 0) (.cst (.int 3))), (.op .mul [(.cst (.int 7919)), (.idx (.nm 0) (.cst (.int 4)))])])]), (.cst (.int 48271))])]), (.cst (.int 2147483647))]), .asg 2 (.op .mod [(.op .int [(.op .mul [(.nm 2), (.op .add [(.op .fdiv [(.nm 2), (.cst (.int 1009))]), (.cst (.int 69621))])])]), (.cst (.int 2147483647))]), .asg 2 (.op .mod [(.op .int [(.op .mul [(.nm 2), (.op .add [(.op .fdiv [(.nm 2), (.cst (.int 2003))]), (.cst (.int 40014))])])]), (.cst (.int 2147483563))]), .ret (.op .mod [(.op .int [(.op .fdiv [(.nm 2), (.cst (.int 16))])]), (.nm 1)])]
    [.val (hs cells a b c e), .val (.p (.int m)), s2, s3, s4] = some (.rt (.p (.int (b % m))) [.val (hs cells a (b / m) c e), .val (.p (.int m)), s2, s3, .val (.p (.int (b % m)))]) := by
  have c1 : ev [] false (.op .gt [(.idx (.nm 0) (.cst (.int 2))), (.cst (.int 0))]) [.val (hs cells a b c e), .val (.p (.int m)), s2, s3, s4] = some (.rv (.p (.bl true)), [.val (hs cells a b c e), .val (.p (.int m)), s2, s3, s4]) :=
    e_bin h2 e_cst (by simp [opD, cmpD, B, hb])
  have c2 : ev [] false (.op .mod [(.op .int [(.idx (.nm 0) (.cst (.int 2)))]), (.nm 1)]) [.val (hs cells a b c e), .val (.p (.int m)), s2, s3, s4] = some (.rv (.p (.int (b % m))), [.val (hs cells a b c e), .val (.p (.int m)), s2, s3, s4]) :=
    e_bin (e_un h2 (d := .p (.int b)) rfl) (e_nm rfl) (by simp [opD, modD, I, hm])
  have c3 : ev [] false (.op .fdiv [(.idx (.nm 0) (.cst (.int 2))), (.nm 1)]) [.val (hs cells a b c e), .val (.p (.int m)), s2, s3, .val (.p (.int (b % m)))] = some (.rv (.p (.int (b / m))), [.val (hs cells a b c e), .val (.p (.int m)), s2, s3, .val (.p (.int (b % m)))]) :=
    e_bin h2 (e_nm rfl) (by simp [opD, fdivD, I, hm, hm2])
  exact runs_rt (run_ite_t (t_rv c1) (runs_nx (r_asg c2) (runs_nx (run_asg1 (o_rv c3) p2) (runs_rt (r_ret (e_nm rfl))))))
theorem big_lt {x y : Int} (h : 0 ≤ x) (h2 : x < 2147483648) : mulD [.p (.int x), .p (.int y)] = some (.p (.int (x * y))) := by
  have : big64 x = true := by simp [big64]; omega
  simp [mulD, this, I]
theorem draw_c {s2 s3 s4 : S} (hm : 0 < m) (hb : ¬ 0 < b) : ∃ r x s2', (0 ≤ r ∧ r < m) ∧ runs [] [.ite (.op .gt [(.idx (.nm 0) (.cst (.int 2))), (.cst (.int 0))]) [.asg 4 (.op .mod [(.op .int [(.idx (.nm 0) (.cst (.int 2)))]), (.nm 1)]), .asg1 (.s1 0 (.cst (.int 2))) (.op .fdiv [(.idx (.nm 0) (.cst (.int 2))), (.nm 1)]), .ret (.nm 4)] [], .asg1 (.s1 0 (.cst (.int 4))) (.op .add [(.idx (.nm 0) (.cst (.int 4))), (.cst (.int 1))]), .asg 2 (.op .mod [(.op .int [(.op .mul [(.op .int [(.op .add [(.idx (.nm 0) (.cst (.int 3))), (.op .mul [(.cst (.int 7919)), (.idx (.nm 0) (.cst (.int 4)))])])]), (.cst (.int 48271))])]), (.cst (.int 2147483647))]), .asg 2 (.op .mod [(.op .int [(.op .mul [(.nm 2), (.op .add [(.op .fdiv [(.nm 2), (.cst (.int 1009))]), (.cst (.int 69621))])])]), (.cst (.int 2147483647))]), .asg 2 (.op .mod [(.op .int [(.op .mul [(.nm 2), (.op .add [(.op .fdiv [(.nm 2), (.cst (.int 2003))]), (.cst (.int 40014))])])]), (.cst (.int 2147483563))]), .ret (.op .mod [(.op .int [(.op .fdiv [(.nm 2), (.cst (.int 16))])]), (.nm 1)])]
    [.val (hs cells a b c e), .val (.p (.int m)), s2, s3, s4] = some (.rt (.p (.int r)) [.val (hs cells a b c x), .val (.p (.int m)), s2', s3, s4]) := by
  have c1 : ev [] false (.op .gt [(.idx (.nm 0) (.cst (.int 2))), (.cst (.int 0))]) [.val (hs cells a b c e), .val (.p (.int m)), s2, s3, s4] = some (.rv (.p (.bl false)), [.val (hs cells a b c e), .val (.p (.int m)), s2, s3, s4]) :=
    e_bin h2 e_cst (by simp [opD, cmpD, B]; omega)
  have c2 : ev [] false (.op .add [(.idx (.nm 0) (.cst (.int 4))), (.cst (.int 1))]) [.val (hs cells a b c e), .val (.p (.int m)), s2, s3, s4] = some (.rv (.p (.int (e + 1))), [.val (hs cells a b c e), .val (.p (.int m)), s2, s3, s4]) := e_bin h4 e_cst rfl
  generalize e + 1 = e1 at c2
  have c3 : ev [] false (.op .mod [(.op .int [(.op .mul [(.op .int [(.op .add [(.idx (.nm 0) (.cst (.int 3))), (.op .mul [(.cst (.int 7919)), (.idx (.nm 0) (.cst (.int 4)))])])]), (.cst (.int 48271))])]), (.cst (.int 2147483647))]) [.val (hs cells a b c e1), .val (.p (.int m)), s2, s3, s4] = some (.rv (.p (.int ((c + 7919 * e1) * 48271 % 2147483647))), [.val (hs cells a b c e1), .val (.p (.int m)), s2, s3, s4]) :=
    e_bin (e_un (e_bin (e_un (e_bin h3 (e_bin e_cst h4 (d := .p (.int (7919 * e1))) (by simp [opD, mulD, big64, I])) (d := .p (.int (c + 7919 * e1))) rfl) (d := .p (.int (c + 7919 * e1))) rfl) e_cst (d := .p (.int ((c + 7919 * e1) * 48271))) (by simp [opD, mulD, big64, I])) (d := .p (.int ((c + 7919 * e1) * 48271))) rfl) e_cst (by simp [opD, modD, I])
  have b1 := Int.emod_nonneg ((c + 7919 * e1) * 48271) (show (2147483647 : Int) ≠ 0 by decide)
  have b2 := Int.emod_lt_of_pos ((c + 7919 * e1) * 48271) (show (0 : Int) < 2147483647 by decide)
  generalize (c + 7919 * e1) * 48271 % 2147483647 = v at c3 b1 b2
  have c4 : ev [] false (.op .mod [(.op .int [(.op .mul [(.nm 2), (.op .add [(.op .fdiv [(.nm 2), (.cst (.int 1009))]), (.cst (.int 69621))])])]), (.cst (.int 2147483647))]) [.val (hs cells a b c e1), .val (.p (.int m)), .val (.p (.int v)), s3, s4] = some (.rv (.p (.int (v * (v / 1009 + 69621) % 2147483647))), [.val (hs cells a b c e1), .val (.p (.int m)), .val (.p (.int v)), s3, s4]) :=
    e_bin (e_un (e_bin (e_nm rfl) (e_bin (e_bin (e_nm rfl) e_cst (x := .p (.int v)) (d := .p (.int (v / 1009))) (by simp [opD, fdivD, I]; decide)) e_cst (d := .p (.int (v / 1009 + 69621))) rfl) (x := .p (.int v)) (d := .p (.int (v * (v / 1009 + 69621)))) (big_lt b1 (by omega))) (d := .p (.int (v * (v / 1009 + 69621)))) rfl) e_cst (by simp [opD, modD, I])
  have b3 := Int.emod_nonneg (v * (v / 1009 + 69621)) (show (2147483647 : Int) ≠ 0 by decide)
  have b4 := Int.emod_lt_of_pos (v * (v / 1009 + 69621)) (show (0 : Int) < 2147483647 by decide)
  generalize v * (v / 1009 + 69621) % 2147483647 = w at c4 b3 b4
  have c5 : ev [] false (.op .mod [(.op .int [(.op .mul [(.nm 2), (.op .add [(.op .fdiv [(.nm 2), (.cst (.int 2003))]), (.cst (.int 40014))])])]), (.cst (.int 2147483563))]) [.val (hs cells a b c e1), .val (.p (.int m)), .val (.p (.int w)), s3, s4] = some (.rv (.p (.int (w * (w / 2003 + 40014) % 2147483563))), [.val (hs cells a b c e1), .val (.p (.int m)), .val (.p (.int w)), s3, s4]) :=
    e_bin (e_un (e_bin (e_nm rfl) (e_bin (e_bin (e_nm rfl) e_cst (x := .p (.int w)) (d := .p (.int (w / 2003))) (by simp [opD, fdivD, I]; decide)) e_cst (d := .p (.int (w / 2003 + 40014))) rfl) (x := .p (.int w)) (d := .p (.int (w * (w / 2003 + 40014)))) (big_lt b3 (by omega))) (d := .p (.int (w * (w / 2003 + 40014)))) rfl) e_cst (by simp [opD, modD, I])
  generalize w * (w / 2003 + 40014) % 2147483563 = u at c5
  have c6 : ev [] false (.op .mod [(.op .int [(.op .fdiv [(.nm 2), (.cst (.int 16))])]), (.nm 1)]) [.val (hs cells a b c e1), .val (.p (.int m)), .val (.p (.int u)), s3, s4] = some (.rv (.p (.int (u / 16 % m))), [.val (hs cells a b c e1), .val (.p (.int m)), .val (.p (.int u)), s3, s4]) :=
    e_bin (e_un (e_bin (e_nm rfl) e_cst (x := .p (.int u)) (d := .p (.int (u / 16))) (by simp [opD, fdivD, I]; decide)) (d := .p (.int (u / 16))) rfl) (e_nm rfl) (by simp [opD, modD, I, hm])
  exact ⟨_, e1, _, ⟨Int.emod_nonneg _ (by omega), Int.emod_lt_of_pos _ hm⟩, runs_nx (run_ite_f (t_rv c1) runs_0) (runs_nx (run_asg1 (o_rv c2) p4) (runs_nx (r_asg c3) (runs_nx (r_asg c4) (runs_nx (r_asg c5) (runs_rt (r_ret c6))))))⟩
end
theorem c_draw {h : D} (hh : IsHand h) {m : Int} (hm : 0 < m) (hm2 : m.natAbs.log2 < 9000) : ∃ r h', C__law_draw [h, .p (.int m)] = some (.p (.int r), [some h', none]) ∧ (0 ≤ r ∧ r < m) ∧ IsHand h' := by
  obtain ⟨cells, a, b, c, e, rfl⟩ := hh
  obtain ⟨a', b', c', s3', h1⟩ := draw_a (cells := cells) (a := a) (b := b) (c := c) (e := e) (m := m) (s2 := .no) (s3 := .no) (s4 := .no)
  by_cases hb : 0 < b'
  · exact ⟨_, _, mk_rt (ρ0 := [.val (hs cells a b c e), .val (.p (.int m)), .no, .no, .no]) rfl rfl (runs_nx h1 (draw_b hm hm2 hb)) rfl rfl, ⟨Int.emod_nonneg _ (by omega), Int.emod_lt_of_pos _ hm⟩, _, _, _, _, _, rfl⟩
  · obtain ⟨r, x, s2', h2, h3⟩ := draw_c (cells := cells) (a := a') (b := b') (c := c') (e := e) (m := m) (s2 := .no) (s3 := s3') (s4 := .no) hm hb
    exact ⟨r, _, mk_rt (ρ0 := [.val (hs cells a b c e), .val (.p (.int m)), .no, .no, .no]) rfl rfl (runs_nx h1 h3) rfl rfl, h2, _, _, _, _, _, rfl⟩
end K63

set_option Elab.async false
set_option linter.all false
set_option maxRecDepth 100000
namespace K63
open PF
theorem cut63 (ns : List Int) : ∃ cs : List Int, PF.cutT (ns.map T.int) none (some 63) = cs.map T.int ∧ cs.length ≤ ns.length := by
  refine ⟨((ns.drop _).take _), by unfold PF.cutT; rw [← List.map_drop, ← List.map_take], ?_⟩
  simp only [List.length_take, List.length_drop]
  omega
theorem c__law_hand {ns : List Int} (hn : ns.length ≤ 63) : ∃ h, C__law_hand [ro ns] = some (h, [some (ro ns)]) ∧ IsHand h := by
  obtain ⟨cs, hc, hl⟩ := cut63 ns
  have e1 : ev [] false (.comp (.op .abs [(.op .int [(.nm 2)])]) (.one 2) 0 [(.op (.slice false true) [(.nm 0), (.cst (.int 63))])] []) [.val (ro ns), .no, .no] = some (.rv (.l (cs.map fun x => .p (.int (if x < 0 then -x else x)))), [.val (ro ns), .no, .no]) := by
    refine ev_compN cs (fun x => .p (.int x)) _ (w := .one (.fix (cs.map T.int))) (by simp [itemsW]) rfl (rs := [.rv (L (cs.map T.int))]) (ρ1 := [.val (ro ns), .no, .no]) ?_ (by simp only [srcK, sqOf, L, pures_map, Option.map_some]) (Nat.le_trans (by omega) (show 63 ≤ LIM from Nat.le_of_ble_eq_true rfl)) rfl fun x hx => ⟨_, rfl, rfl, ?_⟩
    · simp [ev_1, ev_2, ev_3, ev_4, ev_5, ev_6, ev_7, ev_8, ev_9, ev_10, ev_11, ev_12, ev_13, ev_15, evL_1, evL_2, ownL, evT_1, evT_2, evOwn_1, evTest_1, look, ro, vals, valR, opD, sliceD, sliceV, items, hc]
    · exact e_un (e_un (e_nm rfl) (d := .p (.int x)) rfl) rfl
  have e2 : ev [] false (.lst [(.nm 1), (.cst (.int 0)), (.cst (.int 0)), (.op .add [(.cst (.int 61)), (.op .mul [(.cst (.int 7)), (.op .len [(.nm 1)])])]), (.cst (.int 0))]) [.val (ro ns), .val (.l (cs.map fun x => .p (.int (if x < 0 then -x else x)))), .no] = some (.rv (hs (cs.map fun x => if x < 0 then -x else x) 0 0 (61 + 7 * cs.length) 0), [.val (ro ns), .no, .no]) := by
    have h5 : 5 ≤ LIM := Nat.le_of_ble_eq_true rfl
    have hm : mulD [.p (.int 7), .p (.int cs.length)] = some (.p (.int (7 * cs.length))) := big_lt (by decide) (by decide)
    have ha : ev [] false (.op .add [(.cst (.int 61)), (.op .mul [(.cst (.int 7)), (.op .len [(.nm 1)])])]) [.val (ro ns), .val (.l (cs.map fun x => .p (.int (if x < 0 then -x else x)))), .no] = some (.rv (.p (.int (61 + 7 * cs.length))), [.val (ro ns), .val (.l (cs.map fun x => .p (.int (if x < 0 then -x else x)))), .no]) :=
      e_bin e_cst (e_bin e_cst (e_un_nm (e_nml rfl) rfl (d := .p (.int cs.length)) (by simp [opD, lenD, I])) hm) rfl
    have hL := a_nm (e_nml (i := 1) (Γ := []) (q := false) (ρ := [.val (ro ns), .val (.l (cs.map fun x => .p (.int (if x < 0 then -x else x)))), .no]) rfl) (a_rv (e_cst (t := .int 0)) (a_rv (e_cst (t := .int 0)) (a_rv ha (a_rv (e_cst (t := .int 0)) a_nil))))
    rw [show ev [] false (.lst _) _ = _ from ev_8 .., hL]
    simp [ownL, PF.own, look, put, h5, hs]
  exact ⟨_, mk_rt (ρ0 := [.val (ro ns), .no, .no]) rfl rfl (runs_nx (r_asg e1) (runs_rt (r_ret e2))) rfl rfl, _, _, _, _, _, rfl⟩
end K63

set_option Elab.async false
set_option linter.all false
set_option maxRecDepth 100000
namespace K63
open PF
/-- a table that the program takes -/
structure Tab (n : Nat) (f : Nat → Nat → Int) : Prop where
  n1 : 1 ≤ n
  n7 : n ≤ 7
  b0 : ∀ i j, i < n → j < n → 0 ≤ f i j ∧ f i j ≤ 1000
  dz : ∀ i j, i < n → j < n → (f i j = 0 ↔ i = j)
  sy : ∀ i j, i < n → j < n → f i j = f j i
theorem sized_tab {n : Nat} {f : Nat → Nat → Int} {lo hi : Int} : C_is_sized [.p (tabT n f), .p (.int lo), .p (.int hi)] = some (.p (.bl (decide (lo ≤ (n : Int)) && decide ((n : Int) ≤ hi))), [none, none, none]) := by
  have := c_is_sized ((List.range n).map fun i => rowT n (f i)) lo hi
  simpa [tabT] using this
theorem sized_row {n : Nat} {f : Nat → Int} {lo hi : Int} : C_is_sized [.p (rowT n f), .p (.int lo), .p (.int hi)] = some (.p (.bl (decide (lo ≤ (n : Int)) && decide ((n : Int) ≤ hi))), [none, none, none]) := by
  have := c_is_sized ((List.range n).map fun i => .int (f i)) lo hi
  simpa [rowT] using this
theorem lim7 {n : Nat} (h : n ≤ 7) : n ≤ LIM := Nat.le_trans h (Nat.le_of_ble_eq_true rfl)
theorem all_list (l : List Nat) (g : Nat → Bool) : allD (·.all id) [.l (l.map fun k => .p (.bl (g k)))] = some (.p (.bl (l.all g))) := by
  simp only [allD, items, pures_mapP, blsOf_map, Option.map_some, B, List.all_map, Function.comp_def, id]
theorem any_list (l : List Nat) (g : Nat → Bool) : allD (·.any id) [.l (l.map fun k => .p (.bl (g k)))] = some (.p (.bl (l.any g))) := by
  simp only [allD, items, pures_mapP, blsOf_map, Option.map_some, B, List.any_map, Function.comp_def, id]
section
variable {n : Nat} {f : Nat → Nat → Int} {s1 s2 : S} {Γ : List CT} {q : Bool}
theorem len_tab {i : Nat} {ρ : List S} (h : look ρ i = .val (.p (tabT n f))) : ev Γ q (.op .len [.nm i]) ρ = some (.rv (.p (.int n)), ρ) := e_un (e_nm h) (by simp [opD, tab_len])
theorem it_a (t : Tab n f) : ev [C_is_sized, C_is_within] false (.or_ (.not_ (.call 0 [(.nm 0), (.cst (.int 1)), (.cst (.int 7))])) (.not_ (.op .all [(.comp (.call 0 [(.nm 2), (.op .len [(.nm 0)]), (.op .len [(.nm 0)])]) (.one 2) 0 [(.nm 0)] [])]))) [.val (.p (tabT n f)), .no, .no, .no, .no] = some (.rv (.p (.bl false)), [.val (.p (tabT n f)), .no, .no, .no, .no]) := by
  have h1 := t.n1
  have h7 := t.n7
  have c0 : ev [C_is_sized, C_is_within] false (.call 0 [(.nm 0), (.cst (.int 1)), (.cst (.int 7))]) [.val (.p (tabT n f)), .no, .no, .no, .no] = some (.rv (.p (.bl true)), [.val (.p (tabT n f)), .no, .no, .no, .no]) :=
    e_call (os := [none, none, none]) (ds := [.p (tabT n f), .p (.int 1), .p (.int 7)]) (a_rv (e_nm rfl) (a_rv e_cst (a_rv e_cst a_nil))) rfl (sized_tab.trans (by simp [h1, h7]; omega)) rfl
  have c1 : ev [C_is_sized, C_is_within] false (.comp (.call 0 [(.nm 2), (.op .len [(.nm 0)]), (.op .len [(.nm 0)])]) (.one 2) 0 [(.nm 0)] []) [.val (.p (tabT n f)), .no, .no, .no, .no] = some (.rv (.l ((List.range n).map fun k => .p (.bl true))), [.val (.p (tabT n f)), .no, .no, .no, .no]) := by
    refine ev_compN (List.range n) (fun k => .p (rowT n (f k))) _ (w := .one (.fix ((List.range n).map fun i => rowT n (f i)))) (by simp [itemsW]) rfl (rs := [.rv (.p (tabT n f))]) (ρ1 := [.val (.p (tabT n f)), .no, .no, .no, .no]) (a_rv (e_nm rfl) a_nil) rfl (by simpa using lim7 h7) rfl fun k hk => ⟨_, rfl, rfl, ?_⟩
    exact e_call (os := [none, none, none]) (ds := [.p (rowT n (f k)), .p (.int n), .p (.int n)]) (a_rv (e_nm rfl) (a_rv (len_tab rfl) (a_rv (len_tab rfl) a_nil))) rfl (sized_row.trans (by simp)) rfl
  refine e_orf (e_not c0) (e_not (k := true) (e_un c1 ?_))
  rw [show opD .all = allD (·.all id) from rfl, all_list]
  simp
theorem it_b (t : Tab n f) {i : Nat} (hi : i < n) : ev [C_is_sized, C_is_within] false (.op .all [(.comp (.call 1 [(.nm 3), (.cst (.int 0)), (.cst (.int 1000))]) (.one 3) 0 [(.nm 2)] [])]) [.val (.p (tabT n f)), .val (.p (.int i)), .val (.p (rowT n (f i))), .no, .no] = some (.rv (.p (.bl true)), [.val (.p (tabT n f)), .val (.p (.int i)), .val (.p (rowT n (f i))), .no, .no]) := by
  have h7 := t.n7
  have c1 : ev [C_is_sized, C_is_within] false (.comp (.call 1 [(.nm 3), (.cst (.int 0)), (.cst (.int 1000))]) (.one 3) 0 [(.nm 2)] []) [.val (.p (tabT n f)), .val (.p (.int i)), .val (.p (rowT n (f i))), .no, .no] = some (.rv (.l ((List.range n).map fun k => .p (.bl true))), [.val (.p (tabT n f)), .val (.p (.int i)), .val (.p (rowT n (f i))), .no, .no]) := by
    refine ev_compN (List.range n) (fun k => .p (.int (f i k))) _ (w := .one (.fix ((List.range n).map fun k => .int (f i k)))) (by simp [itemsW]) rfl (rs := [.rv (.p (rowT n (f i)))]) (ρ1 := [.val (.p (tabT n f)), .val (.p (.int i)), .val (.p (rowT n (f i))), .no, .no]) (a_rv (e_nm rfl) a_nil) rfl (by simpa using lim7 h7) rfl fun k hk => ⟨_, rfl, rfl, ?_⟩
    have hb := t.b0 i k hi (List.mem_range.mp hk)
    exact e_call (os := [none, none, none]) (ds := [.p (.int (f i k)), .p (.int 0), .p (.int 1000)]) (a_rv (e_nm rfl) (a_rv e_cst (a_rv e_cst a_nil))) rfl ((c_is_within _ _ _).trans (by simp [hb.1, hb.2])) rfl
  refine e_un c1 ?_
  rw [show opD .all = allD (·.all id) from rfl, all_list]
  simp
theorem zipIdx_range (g : Nat → T) : (((List.range n).map g).zipIdx.map fun z => D.p (.tup [.int z.2, z.1])) = (List.range n).map fun k => .p (.tup [.int k, g k]) := by
  refine List.ext_getElem (by simp) fun i h1 h2 => by simp
theorem it_c (t : Tab n f) {i : Nat} (hi : i < n) : ev [C_is_sized, C_is_within] false (.op .any [(.comp (.op .ne [(.op .eq [(.nm 3), (.cst (.int 0))]), (.op .eq [(.nm 1), (.nm 4)])]) (.many [4, 3]) 3 [(.nm 2)] [])]) [.val (.p (tabT n f)), .val (.p (.int i)), .val (.p (rowT n (f i))), .no, .no] = some (.rv (.p (.bl false)), [.val (.p (tabT n f)), .val (.p (.int i)), .val (.p (rowT n (f i))), .no, .no]) := by
  have h7 := t.n7
  have c1 : ev [C_is_sized, C_is_within] false (.comp (.op .ne [(.op .eq [(.nm 3), (.cst (.int 0))]), (.op .eq [(.nm 1), (.nm 4)])]) (.many [4, 3]) 3 [(.nm 2)] []) [.val (.p (tabT n f)), .val (.p (.int i)), .val (.p (rowT n (f i))), .no, .no] = some (.rv (.l ((List.range n).map fun k => .p (.bl false))), [.val (.p (tabT n f)), .val (.p (.int i)), .val (.p (rowT n (f i))), .no, .no]) := by
    refine ev_compN (List.range n) (fun k => .p (.tup [.int k, .int (f i k)])) _ (w := .enum (.fix ((List.range n).map fun k => .int (f i k)))) (by simp only [itemsW, zipIdx_range]) rfl (rs := [.rv (.p (rowT n (f i)))]) (ρ1 := [.val (.p (tabT n f)), .val (.p (.int i)), .val (.p (rowT n (f i))), .no, .no]) (a_rv (e_nm rfl) a_nil) rfl (by simpa using lim7 h7) rfl fun k hk => ⟨_, rfl, rfl, ?_⟩
    have hz := t.dz i k hi (List.mem_range.mp hk)
    refine e_bin (x := .p (.bl (decide (f i k = 0)))) (y := .p (.bl (decide (i = k)))) (e_bin (e_nm rfl) e_cst (x := .p (.int (f i k))) ?_) (e_bin (e_nm rfl) (e_nm rfl) (x := .p (.int i)) (y := .p (.int k)) ?_) ?_
    · simp [opD, eqOp, eqD, okT, eqT, B, beq_dec]
    · simp [opD, eqOp, eqD, okT, eqT, B, beq_dec]; omega
    · simp [opD, eqOp, eqD, okT, eqT, B, hz]
  refine e_un c1 ?_
  rw [show opD .any = allD (·.any id) from rfl, any_list]
  simp
theorem it_d (t : Tab n f) : ev [C_is_sized, C_is_within] false (.op .all [(.comp (.op .all [(.comp (.op .eq [(.idx (.nm 2) (.nm 4)), (.idx (.idx (.nm 0) (.nm 4)) (.nm 1))]) (.one 4) 1 [(.nm 1)] [])]) (.many [1, 2]) 3 [(.nm 0)] [])]) [.val (.p (tabT n f)), s1, s2, .no, .no] = some (.rv (.p (.bl true)), [.val (.p (tabT n f)), .no, .no, .no, .no]) := by
  have h7 := t.n7
  have c2 : ∀ i, i < n → ev [C_is_sized, C_is_within] false (.comp (.op .eq [(.idx (.nm 2) (.nm 4)), (.idx (.idx (.nm 0) (.nm 4)) (.nm 1))]) (.one 4) 1 [(.nm 1)] []) [.val (.p (tabT n f)), .val (.p (.int i)), .val (.p (rowT n (f i))), .no, .no] = some (.rv (.l ((List.range i).map fun k => .p (.bl true))), [.val (.p (tabT n f)), .val (.p (.int i)), .val (.p (rowT n (f i))), .no, .no]) := fun i hi => by
    refine ev_compN (List.range i) (fun k => .p (.int (0 + (k : Nat)))) _ (w := .rng 0 i) rfl rfl (rs := [.rv (.p (.int i))]) (ρ1 := [.val (.p (tabT n f)), .val (.p (.int i)), .val (.p (rowT n (f i))), .no, .no]) (a_rv (e_nm rfl) a_nil) ?_ (by simpa using lim7 (show i ≤ 7 by omega)) rfl fun k hk => ⟨_, rfl, rfl, ?_⟩
    · simp [srcK, valR, rngS, rngOk]; omega
    · have hk : k < i := List.mem_range.mp hk
      have hs := t.sy i k hi (by omega)
      simp [mk, startS, run_1, run_2, run_3, run_4, run_5, run_6, run_7, run_8, run_9, run_12, run_13, run_14, run_15, run_16, run_17, runs_1, runs_2, ev_1, ev_2, ev_3, ev_4, ev_5, ev_6, ev_7, ev_8, ev_9, ev_10, ev_11, ev_12, ev_13, ev_15, evL_1, evL_2, ownL, evT_1, evT_2, evOwn_1, evTest_1, look, put, kill, callD, vals, valR, left, stsO, stO, isP, PF.own, truR, truD, nms, nodupB, back, opD, cmpD, addD, subD, negD, isD, isiD, isiB, tyName, lenD, I, B, L, pures_map, lent, mkTup, pures, unpk, putAll, Tg.own, Tgt.st, killO, eqOp, allD, items, seqT, tupleD, listD, item_row (f := f i) (show k < n by omega), item_tab (f := f) (show k < n by omega), item_row (f := f k) hi, hs, eqD, okT, eqT]
  have c1 : ev [C_is_sized, C_is_within] false (.comp (.op .all [(.comp (.op .eq [(.idx (.nm 2) (.nm 4)), (.idx (.idx (.nm 0) (.nm 4)) (.nm 1))]) (.one 4) 1 [(.nm 1)] [])]) (.many [1, 2]) 3 [(.nm 0)] []) [.val (.p (tabT n f)), s1, s2, .no, .no] = some (.rv (.l ((List.range n).map fun k => .p (.bl true))), [.val (.p (tabT n f)), .no, .no, .no, .no]) := by
    refine ev_compN (List.range n) (fun k => .p (.tup [.int k, rowT n (f k)])) _ (w := .enum (.fix ((List.range n).map fun k => rowT n (f k)))) (by simp only [itemsW, zipIdx_range]) rfl (rs := [.rv (.p (tabT n f))]) (ρ1 := [.val (.p (tabT n f)), s1, s2, .no, .no]) (a_rv (e_nm rfl) a_nil) rfl (by simpa using lim7 h7) rfl fun k hk => ⟨_, rfl, rfl, ?_⟩
    refine e_un (c2 k (List.mem_range.mp hk)) ?_
    rw [show opD .all = allD (·.all id) from rfl, all_list]
    simp
  refine e_un c1 ?_
  rw [show opD .all = allD (·.all id) from rfl, all_list]
  simp
theorem it_loop (t : Tab n f) : ∃ s1 s2, PF.run [C_is_sized, C_is_within] (.for_ (.many [1, 2]) 3 [(.nm 0)] [.ite (.not_ (.op .all [(.comp (.call 1 [(.nm 3), (.cst (.int 0)), (.cst (.int 1000))]) (.one 3) 0 [(.nm 2)] [])])) [.ret (.cst (.bl false))] [], .ite (.op .any [(.comp (.op .ne [(.op .eq [(.nm 3), (.cst (.int 0))]), (.op .eq [(.nm 1), (.nm 4)])]) (.many [4, 3]) 3 [(.nm 2)] [])]) [.ret (.cst (.bl false))] []] []) [.val (.p (tabT n f)), .no, .no, .no, .no] = some (.nx [.val (.p (tabT n f)), s1, s2, .no, .no]) := by
  obtain ⟨ρ', h, s1, s2, rfl⟩ := run_forI (Γ := [C_is_sized, C_is_within]) (tg := .many [1, 2]) (kind := 3) (src := [.nm 0]) (body := [.ite (.not_ (.op .all [(.comp (.call 1 [(.nm 3), (.cst (.int 0)), (.cst (.int 1000))]) (.one 3) 0 [(.nm 2)] [])])) [.ret (.cst (.bl false))] [], .ite (.op .any [(.comp (.op .ne [(.op .eq [(.nm 3), (.cst (.int 0))]), (.op .eq [(.nm 1), (.nm 4)])]) (.many [4, 3]) 3 [(.nm 2)] [])]) [.ret (.cst (.bl false))] []]) (dead := []) (rs := [.rv (.p (tabT n f))]) (w := .enum (.fix ((List.range n).map fun k => rowT n (f k))))
    (ρ := [.val (.p (tabT n f)), .no, .no, .no, .no]) (ρ1 := [.val (.p (tabT n f)), .no, .no, .no, .no]) (a_rv (e_nm rfl) a_nil) rfl rfl (fun _ ρ => ∃ s1 s2, ρ = [.val (.p (tabT n f)), s1, s2, .no, .no]) ⟨.no, .no, rfl⟩ (fun k ρ hk ⟨s1, s2, hρ⟩ => by
      have hk : k < n := by simpa [Wk.len, Sq.len] using hk
      subst hρ
      refine ⟨.p (.tup [.int k, rowT n (f k)]), [.val (.p (tabT n f)), .val (.p (.int k)), .val (.p (rowT n (f k))), .no, .no], .nx [.val (.p (tabT n f)), .val (.p (.int k)), .val (.p (rowT n (f k))), .no, .no], _, ?_, rfl, ?_, rfl, _, _, rfl⟩
      · simp [Wk.at, Sq.at, hk]
      · exact runs_nx (run_ite_f (t_rv (e_not (it_b t hk))) runs_0) (runs_one (run_ite_f (t_rv (it_c t hk)) runs_0))) (fun _ _ => rfl)
  exact ⟨s1, s2, h⟩
theorem c_is_table (t : Tab n f) : C_is_table [.p (tabT n f)] = some (.p (.bl true), [none]) := by
  obtain ⟨s1, s2, h⟩ := it_loop t
  exact mk_rt (ρ0 := [.val (.p (tabT n f)), .no, .no, .no, .no]) rfl rfl (runs_nx (run_ite_f (t_rv (it_a t)) runs_0) (runs_nx h (runs_rt (r_ret (it_d t))))) rfl rfl
theorem c_check_table (t : Tab n f) : C_check_table [.p (tabT n f)] = some (.p .non, [none]) :=
  mk_nx (ρ0 := [.val (.p (tabT n f))]) rfl rfl (runs_one (run_ite_f (t_rv (e_not (k := true) (e_call (os := [none]) (ds := [.p (tabT n f)]) (a_rv (e_nm rfl) a_nil) rfl (c_is_table t) rfl))) runs_0)) rfl rfl
end
end K63

set_option Elab.async false
set_option linter.all false
set_option maxRecDepth 100000
namespace K63
open PF
theorem cut1 {α : Type} (xs : List α) : PF.cutT xs (some 1) none = xs.drop 1 := by
  cases xs with
  | nil => simp [PF.cutT]
  | cons x r => simp [PF.cutT, HT.sIx]
theorem zip_lt {xs : List Nat} (h : xs.Pairwise (· < ·)) : ∀ z ∈ xs.zip (xs.drop 1), z.1 < z.2 := fun z hz => by
  obtain ⟨i, hi, e⟩ := List.mem_iff_getElem.mp hz
  simp only [List.length_zip, List.length_drop] at hi
  subst e
  simp only [List.getElem_zip, List.getElem_drop]
  exact List.pairwise_iff_getElem.mp h i (1 + i) (by omega) (by omega) (by omega)
/-- places of a table, in order -/
structure Lot (n : Nat) (xs : List Nat) : Prop where
  up : xs.Pairwise (· < ·)
  lt : ∀ x ∈ xs, x < n
  ne : xs ≠ []
theorem all_map {α : Type} (l : List α) (g : α → Bool) : allD (·.all id) [.l (l.map fun k => .p (.bl (g k)))] = some (.p (.bl (l.all g))) := by
  simp only [allD, items, pures_mapP, blsOf_map, Option.map_some, B, List.all_map, Function.comp_def, id]
theorem nodup_len : ∀ {n : Nat} {xs : List Nat}, xs.Nodup → (∀ x ∈ xs, x < n) → xs.length ≤ n
  | 0, [], _, _ => Nat.le_refl 0
  | 0, x :: _, _, h => absurd (h x List.mem_cons_self) (by omega)
  | n + 1, xs, hn, h => by
    by_cases hm : n ∈ xs
    · have := nodup_len (n := n) (hn.erase n) fun x hx => by
        have h1 := h x (List.mem_of_mem_erase hx)
        have h2 : x ≠ n := (List.Nodup.mem_erase_iff hn).mp hx |>.1
        omega
      rw [List.length_erase_of_mem hm] at this
      omega
    · have := nodup_len (n := n) hn fun x hx => by
        have h1 := h x hx
        have h2 : x ≠ n := fun e => hm (e ▸ hx)
        omega
      omega
/-- all the places, in any order -/
structure Pm (n : Nat) (xs : List Nat) : Prop where
  len : xs.length = n
  nd : xs.Nodup
  lt : ∀ x ∈ xs, x < n
theorem Pm.mem {n : Nat} {xs : List Nat} (p : Pm n xs) {k : Nat} (h : k < n) : k ∈ xs := by
  by_cases hm : k ∈ xs
  · exact hm
  · have := nodup_len (n := n) (List.nodup_cons.mpr ⟨hm, p.nd⟩) fun x hx => by
      rcases List.mem_cons.mp hx with e | e
      · omega
      · exact p.lt x e
    have := p.len
    simp at *
    omega
theorem Pm.perm {n : Nat} {xs : List Nat} (p : Pm n xs) : xs.Perm (List.range n) := by
  rw [List.perm_iff_count]
  intro a
  have h1 : ∀ l : List Nat, l.Nodup → List.count a l = if a ∈ l then 1 else 0 := fun l hl => by
    split
    · rename_i h
      have := List.nodup_iff_count.mp hl a
      have := List.count_pos_iff.mpr h
      omega
    · exact List.count_eq_zero.mpr ‹_›
  rw [h1 xs p.nd, h1 _ List.nodup_range]
  simp only [List.mem_range]
  by_cases h : a < n
  · rw [if_pos (p.mem h), if_pos h]
  · rw [if_neg fun z => h (p.lt a z), if_neg h]
theorem insI_perm (x : Int) : ∀ l : List Int, (insI x l).Perm (x :: l)
  | [] => .refl _
  | y :: r => by
    unfold insI
    split
    · exact .refl _
    · exact ((insI_perm x r).cons y).trans (.swap x y r)
theorem insI_up (x : Int) : ∀ l : List Int, l.Pairwise (· ≤ ·) → (insI x l).Pairwise (· ≤ ·)
  | [], _ => by simp [insI]
  | y :: r, h => by
    have h1 := List.pairwise_cons.mp h
    unfold insI
    split
    · rename_i hxy
      refine List.pairwise_cons.mpr ⟨fun z hz => ?_, h⟩
      rcases List.mem_cons.mp hz with e | e
      · subst e; omega
      · have := h1.1 z e; omega
    · rename_i hxy
      refine List.pairwise_cons.mpr ⟨fun z hz => ?_, insI_up x r h1.2⟩
      rcases List.mem_cons.mp ((insI_perm x r).mem_iff.mp hz) with e | e
      · subst e; omega
      · exact h1.1 z e
theorem sortI_perm : ∀ l : List Int, (sortI l).Perm l
  | [] => .refl _
  | x :: r => (insI_perm x (sortI r)).trans ((sortI_perm r).cons x)
theorem sortI_up : ∀ l : List Int, (sortI l).Pairwise (· ≤ ·)
  | [] => .nil
  | x :: r => insI_up x _ (sortI_up r)
theorem up_uniq : ∀ {l m : List Int}, l.Perm m → l.Pairwise (· ≤ ·) → m.Pairwise (· ≤ ·) → l = m
  | [], m, p, _, _ => by simpa using p.symm.eq_nil
  | a :: l, [], p, _, _ => by simpa using p.eq_nil
  | a :: l, b :: m, p, h1, h2 => by
    have i1 := List.pairwise_cons.mp h1
    have i2 := List.pairwise_cons.mp h2
    have e : a = b := by
      have ha : a ∈ b :: m := p.mem_iff.mp List.mem_cons_self
      have hb : b ∈ a :: l := p.mem_iff.mpr List.mem_cons_self
      rcases List.mem_cons.mp ha with e | e
      · exact e
      · rcases List.mem_cons.mp hb with e2 | e2
        · exact e2.symm
        · have := i2.1 a e
          have := i1.1 b e2
          omega
    subst e
    rw [up_uniq p.cons_inv i1.2 i2.2]
theorem Pm.sorted {n : Nat} {xs : List Nat} (p : Pm n xs) : sortI (xs.map fun (k : Nat) => (k : Int)) = (List.range n).map fun (k : Nat) => (k : Int) := by
  refine up_uniq ((sortI_perm _).trans (p.perm.map _)) (sortI_up _) ?_
  rw [List.pairwise_map]
  exact List.pairwise_lt_range.imp fun h => by omega

theorem fm_range (g : Nat → D) : ∀ xs : List Nat, (List.range xs.length).filterMap (fun j => (xs[j]?).map g) = xs.map g
  | [] => rfl
  | x :: r => by
    rw [List.length_cons, List.range_succ_eq_map, List.filterMap_cons]
    have := fm_range g r
    simp [List.filterMap_map, Function.comp_def, this]
/-- a walk along places, in a tuple or in a list -/
theorem comp1 {Γ : List CT} {q : Bool} {xs : List Nat} {ρ : List S} {i : Nat} {elt : Ex} (g : Nat → D) (hl : look ρ 1 = .val (.p (natT xs)) ∨ look ρ 1 = .val (.l (xs.map fun (k : Nat) => .p (.int (k : Int))))) (hi : put ρ i .no = ρ) (hL : xs.length ≤ LIM)
    (h : ∀ k ∈ xs, ev Γ q elt (put ρ i (.val (.p (.int (k : Nat))))) = some (.rv (g k), put ρ i (.val (.p (.int (k : Nat)))))) : ev Γ q (.comp elt (.one i) 0 [.nm 1] []) ρ = some (.rv (.l (xs.map g)), ρ) := by
  have hk : ∀ s, kill (put ρ i s) [i] = ρ := fun s => by show put (put ρ i s) i .no = ρ; rw [put_put, hi]
  rcases hl with hl | hl
  · exact ev_compN xs (fun k => .p (.int (k : Nat))) g (w := .one (.fix (xs.map fun (k : Nat) => .int (k : Int)))) (by simp [itemsW]) rfl (rs := [.rv (.p (natT xs))]) (ρ1 := ρ) (a_rv (e_nm hl) a_nil) rfl hL (show put ρ i .no = ρ from hi) fun k hk2 => ⟨_, rfl, hk _, h k hk2⟩
  · have hp : pures (xs.map fun (k : Nat) => D.p (.int (k : Int))) = some (xs.map fun (k : Nat) => .int (k : Int)) := pures_mapP xs fun (k : Nat) => .int (k : Int)
    have := ev_compP (Γ := Γ) (q := q) (ρ := ρ) (elt := elt) (tg := .one i) (kind := 0) (src := [.nm 1]) (conds := []) (rs := [.nm 1]) (w := .one (.live 1 xs.length)) (n := xs.length) (fun j => (xs[j]?).map g) rfl (ρ1 := ρ) (a_nm (e_nml hl) a_nil) (by simp [srcK, sqOf, hl, hp]) hL (fun j hj => by
      have e : kill ρ (Tg.one i).own = ρ := hi
      rw [e]
      refine ⟨.p (.int (xs[j] : Nat)), put ρ i (.val (.p (.int (xs[j] : Nat)))), by simp [Wk.at, Sq.at, liveAt, hl, hj], by rw [e]; rfl, .inr ⟨_, .rv (g xs[j]), put ρ i (.val (.p (.int (xs[j] : Nat)))), g xs[j], put ρ i (.val (.p (.int (xs[j] : Nat)))), evT_1 .., by rw [show (Wk.one (Sq.live 1 xs.length)).isLent = false from rfl, Bool.or_false]; exact h _ (List.getElem_mem hj), rfl, by simp [hj], hk _⟩⟩) (by
      have e : kill ρ (Tg.one i).own = ρ := hi
      rw [e]; simp [Wk.ok, Sq.ok, hl])
    rw [this, show kill ρ (Tg.one i).own = ρ from hi]
    rw [fm_range]

section
variable {n : Nat} {f : Nat → Nat → Int} {xs : List Nat}
theorem nat_len : lenD [.p (natT xs)] = some (.p (.int xs.length)) := by simp [lenD, natT, I]
theorem within_comp {Γ : List CT} (h0 : Γ[0]? = some C_is_within) (hL : xs.length ≤ LIM) (h : ∀ x ∈ xs, x < n) : ev Γ false (.op .all [(.comp (.call 0 [(.nm 2), (.cst (.int 0)), (.op .sub [(.nm 1), (.cst (.int 1))])]) (.one 2) 0 [(.nm 0)] [])]) [.val (.p (natT xs)), .val (.p (.int n)), .no] = some (.rv (.p (.bl true)), [.val (.p (natT xs)), .val (.p (.int n)), .no]) := by
  have c1 : ev Γ false (.comp (.call 0 [(.nm 2), (.cst (.int 0)), (.op .sub [(.nm 1), (.cst (.int 1))])]) (.one 2) 0 [(.nm 0)] []) [.val (.p (natT xs)), .val (.p (.int n)), .no] = some (.rv (.l (xs.map fun k => .p (.bl true))), [.val (.p (natT xs)), .val (.p (.int n)), .no]) := by
    refine ev_compN xs (fun k => .p (.int (k : Nat))) _ (w := .one (.fix (xs.map fun (k : Nat) => .int (k : Int)))) (by simp [itemsW]) rfl (rs := [.rv (.p (natT xs))]) (ρ1 := [.val (.p (natT xs)), .val (.p (.int n)), .no]) (a_rv (e_nm rfl) a_nil) rfl hL rfl fun k hk => ⟨_, rfl, rfl, ?_⟩
    have hb := h k hk
    exact e_call (os := [none, none, none]) (ds := [.p (.int k), .p (.int 0), .p (.int (n - 1))]) (a_rv (e_nm rfl) (a_rv e_cst (a_rv (e_bin (e_nm rfl) e_cst (x := .p (.int n)) rfl) a_nil))) h0 ((c_is_within _ _ _).trans (by simp; omega)) rfl
  refine e_un c1 ?_
  rw [show opD .all = allD (·.all id) from rfl, all_list]
  simp
theorem within_comp4 {Γ : List CT} (h0 : Γ[0]? = some C_is_within) (hL : xs.length ≤ LIM) (h : ∀ x ∈ xs, x < n) : ev Γ false (.op .all [(.comp (.call 0 [(.nm 2), (.cst (.int 0)), (.op .sub [(.nm 1), (.cst (.int 1))])]) (.one 2) 0 [(.nm 0)] [])]) [.val (.p (natT xs)), .val (.p (.int n)), .no, .no] = some (.rv (.p (.bl true)), [.val (.p (natT xs)), .val (.p (.int n)), .no, .no]) := by
  have c1 : ev Γ false (.comp (.call 0 [(.nm 2), (.cst (.int 0)), (.op .sub [(.nm 1), (.cst (.int 1))])]) (.one 2) 0 [(.nm 0)] []) [.val (.p (natT xs)), .val (.p (.int n)), .no, .no] = some (.rv (.l (xs.map fun k => .p (.bl true))), [.val (.p (natT xs)), .val (.p (.int n)), .no, .no]) := by
    refine ev_compN xs (fun k => .p (.int (k : Nat))) _ (w := .one (.fix (xs.map fun (k : Nat) => .int (k : Int)))) (by simp [itemsW]) rfl (rs := [.rv (.p (natT xs))]) (ρ1 := [.val (.p (natT xs)), .val (.p (.int n)), .no, .no]) (a_rv (e_nm rfl) a_nil) rfl hL rfl fun k hk => ⟨_, rfl, rfl, ?_⟩
    have hb := h k hk
    exact e_call (os := [none, none, none]) (ds := [.p (.int k), .p (.int 0), .p (.int (n - 1))]) (a_rv (e_nm rfl) (a_rv e_cst (a_rv (e_bin (e_nm rfl) e_cst (x := .p (.int n)) rfl) a_nil))) h0 ((c_is_within _ _ _).trans (by simp; omega)) rfl
  refine e_un c1 ?_
  rw [show opD .all = allD (·.all id) from rfl, all_list]
  simp
theorem Lot.len (l : Lot n xs) : xs.length ≤ n := nodup_len (l.up.imp fun h => by omega) l.lt
theorem c_is_lot (l : Lot n xs) (h7 : n ≤ 7) : C_is_lot [.p (natT xs), .p (.int n)] = some (.p (.bl true), [none, none]) := by
  have hL : xs.length ≤ LIM := lim7 (Nat.le_trans l.len h7)
  have c1 : ev [C_is_within] false (.comp (.op .lt [(.nm 2), (.nm 3)]) (.many [2, 3]) 4 [(.nm 0), (.op (.slice true false) [(.nm 0), (.cst (.int 1))])] []) [.val (.p (natT xs)), .val (.p (.int n)), .no, .no] = some (.rv (.l ((xs.zip (xs.drop 1)).map fun z => .p (.bl (decide (z.1 < z.2))))), [.val (.p (natT xs)), .val (.p (.int n)), .no, .no]) := by
    refine ev_compN (xs.zip (xs.drop 1)) (fun z => .p (.tup [.int (z.1 : Nat), .int (z.2 : Nat)])) _ (w := .zip (.fix (xs.map fun (k : Nat) => .int (k : Int))) (.fix ((xs.drop 1).map fun (k : Nat) => .int (k : Int)))) ?_ rfl (rs := [.rv (.p (natT xs)), .rv (.p (natT (xs.drop 1)))]) (ρ1 := [.val (.p (natT xs)), .val (.p (.int n)), .no, .no]) (a_rv (e_nm rfl) (a_rv (e_bin (e_nm rfl) e_cst (x := .p (natT xs)) ?_) a_nil)) rfl (by rw [List.length_zip]; omega) rfl fun z hz => ⟨_, rfl, rfl, ?_⟩
    · simp only [itemsW, List.zip_map', List.map_map]
      rw [List.zip_map, List.map_map]; rfl
    · simp only [opD, sliceD, sliceV, natT, cut1, List.map_drop]
    · exact e_bin (e_nm rfl) (e_nm rfl) (x := .p (.int (z.1 : Nat))) (y := .p (.int (z.2 : Nat))) (by simp [opD, cmpD, B])
  have c2 : ev [C_is_within] false (.or_ (.not_ (.op (.isi "tuple") [(.nm 0)])) (.not_ (.op .all [(.comp (.call 0 [(.nm 2), (.cst (.int 0)), (.op .sub [(.nm 1), (.cst (.int 1))])]) (.one 2) 0 [(.nm 0)] [])]))) [.val (.p (natT xs)), .val (.p (.int n)), .no, .no] = some (.rv (.p (.bl false)), [.val (.p (natT xs)), .val (.p (.int n)), .no, .no]) :=
    e_orf (e_not (k := true) (e_un (e_nm rfl) rfl)) (e_not (within_comp4 rfl hL l.lt))
  refine mk_rt (ρ0 := [.val (.p (natT xs)), .val (.p (.int n)), .no, .no]) rfl rfl (runs_nx (run_ite_f (t_rv c2) runs_0) (runs_rt (r_ret (e_un c1 ?_)))) rfl rfl
  rw [show opD .all = allD (·.all id) from rfl, all_map]
  congr 3
  rw [List.all_eq_true]
  exact fun z hz => decide_eq_true (zip_lt l.up z hz)
theorem c_check_lot (l : Lot n xs) (h7 : n ≤ 7) : C_check_lot [.p (tabT n f), .p (natT xs)] = some (.p .non, [none, none]) := by
  have c1 : ev [C_is_lot] false (.not_ (.call 0 [(.nm 1), (.op .len [(.nm 0)])])) [.val (.p (tabT n f)), .val (.p (natT xs))] = some (.rv (.p (.bl false)), [.val (.p (tabT n f)), .val (.p (natT xs))]) :=
    e_not (k := true) (e_call (os := [none, none]) (ds := [.p (natT xs), .p (.int n)]) (a_rv (e_nm rfl) (a_rv (len_tab rfl) a_nil)) rfl (c_is_lot l h7) rfl)
  have c2 : ev [C_is_lot] false (.op .eq [(.op .len [(.nm 1)]), (.cst (.int 0))]) [.val (.p (tabT n f)), .val (.p (natT xs))] = some (.rv (.p (.bl false)), [.val (.p (tabT n f)), .val (.p (natT xs))]) :=
    e_bin (e_un (e_nm rfl) (x := .p (natT xs)) nat_len) e_cst (by simp [opD, eqOp, eqD, okT, eqT, B, l.ne])
  exact mk_nx (ρ0 := [.val (.p (tabT n f)), .val (.p (natT xs))]) rfl rfl (runs_one (run_ite_f (t_rv (e_orf c1 c2)) runs_0)) rfl rfl
end
end K63

set_option Elab.async false
set_option linter.all false
set_option maxRecDepth 100000
namespace K63
open PF
mutual
theorem eqT_refl : ∀ t : T, eqT t t = true
  | .non => rfl
  | .bl b => by simp [eqT]
  | .int i => by simp [eqT]
  | .str x => by simp [eqT]
  | .tup xs => by simp only [eqT]; exact eqTs_refl xs
theorem eqTs_refl : ∀ xs : List T, eqTs xs xs = true
  | [] => rfl
  | x :: xs => by simp only [eqTs, eqT_refl x, eqTs_refl xs, Bool.and_self]
end
section
variable {n : Nat} {f : Nat → Nat → Int} {xs : List Nat}
def at0 (xs : List Nat) (k : Nat) : Nat := xs[k]?.getD 0
theorem tab_map (xs : List Nat) (h : Nat → Nat → Int) : tabT xs.length (fun a b => h (at0 xs a) (at0 xs b)) = .tup (xs.map fun i => .tup (xs.map fun j => .int (h i j))) := by
  unfold tabT rowT
  congr 1
  refine List.ext_getElem (by simp) fun i h1 h2 => ?_
  have hi : i < xs.length := by simpa using h2
  simp only [List.getElem_map, List.getElem_range, at0, List.getElem?_eq_getElem hi, Option.getD_some]
  congr 1
  refine List.ext_getElem (by simp) fun j h1 h2 => ?_
  have hj : j < xs.length := by simpa using h2
  simp [hj]
theorem raw_comp {s : S} (hs : s = .val (.p (natT xs)) ∨ s = .val (.l (xs.map fun (k : Nat) => .p (.int (k : Int))))) (h : ∀ x ∈ xs, x < n) (hL : xs.length ≤ LIM) : ev [] false (.op .tuple [(.comp (.op .tuple [(.comp (.idx (.idx (.nm 0) (.nm 2)) (.nm 3)) (.one 3) 0 [(.nm 1)] [])]) (.one 2) 0 [(.nm 1)] [])]) [.val (.p (tabT n f)), s, .no, .no] =
    some (.rv (.p (tabT xs.length (fun a b => f (at0 xs a) (at0 xs b)))), [.val (.p (tabT n f)), s, .no, .no]) := by
  have c2 : ∀ i ∈ xs, ev [] false (.comp (.idx (.idx (.nm 0) (.nm 2)) (.nm 3)) (.one 3) 0 [(.nm 1)] []) [.val (.p (tabT n f)), s, .val (.p (.int (i : Nat))), .no] = some (.rv (.l (xs.map fun j => .p (.int (f i j)))), [.val (.p (tabT n f)), s, .val (.p (.int (i : Nat))), .no]) := fun i hi =>
    comp1 (ρ := [.val (.p (tabT n f)), s, .val (.p (.int (i : Nat))), .no]) (i := 3) (fun j => .p (.int (f i j))) hs rfl hL fun j hj => by
      simp [ev_1, ev_2, ev_3, ev_4, ev_5, ev_6, ev_7, ev_8, ev_9, ev_10, ev_11, ev_12, ev_13, ev_15, evL_1, evL_2, ownL, evT_1, evT_2, evOwn_1, evTest_1, look, put, valR, item_tab (f := f) (h i hi), item_row (f := f i) (h j hj)]
  have c1 : ev [] false (.comp (.op .tuple [(.comp (.idx (.idx (.nm 0) (.nm 2)) (.nm 3)) (.one 3) 0 [(.nm 1)] [])]) (.one 2) 0 [(.nm 1)] []) [.val (.p (tabT n f)), s, .no, .no] = some (.rv (.l (xs.map fun i => .p (.tup (xs.map fun j => .int (f i j))))), [.val (.p (tabT n f)), s, .no, .no]) :=
    comp1 (ρ := [.val (.p (tabT n f)), s, .no, .no]) (i := 2) (fun i => .p (.tup (xs.map fun j => .int (f i j)))) hs rfl hL fun i hi =>
      e_un (c2 i hi) (by simp [opD, tupleD, seqT, items, pures_mapP xs fun j => T.int (f i j)])
  refine e_un c1 ?_
  simp only [opD, tupleD, seqT, items, pures_mapP xs fun i => T.tup (xs.map fun j => T.int (f i j)), Option.map_some, tab_map]
theorem c_raw_part (h : ∀ x ∈ xs, x < n) (hL : xs.length ≤ LIM) : C_raw_part [.p (tabT n f), .p (natT xs)] = some (.p (tabT xs.length (fun a b => f (at0 xs a) (at0 xs b))), [none, none]) :=
  mk_rt (ρ0 := [.val (.p (tabT n f)), .val (.p (natT xs)), .no, .no]) rfl rfl (runs_rt (r_ret (raw_comp (.inl rfl) h hL))) rfl rfl
theorem c_raw_partL (h : ∀ x ∈ xs, x < n) (hL : xs.length ≤ LIM) : C_raw_part [.p (tabT n f), .l (xs.map fun (k : Nat) => .p (.int (k : Int)))] = some (.p (tabT xs.length (fun a b => f (at0 xs a) (at0 xs b))), [none, some (.l (xs.map fun (k : Nat) => .p (.int (k : Int))))]) :=
  mk_rt (ρ0 := [.val (.p (tabT n f)), .val (.l (xs.map fun (k : Nat) => .p (.int (k : Int)))), .no, .no]) rfl rfl (runs_rt (r_ret (raw_comp (.inr rfl) h hL))) rfl rfl
theorem r_exp {Γ : List CT} {e : Ex} {ρ ρ1 : List S} {r : PF.R} (h : ev Γ false e ρ = some (r, ρ1)) : PF.run Γ (.exp e) ρ = some (.nx ρ1) := by
  rw [run_8, h]
theorem c_part (t : Tab n f) (l : Lot n xs) : C_part [.p (tabT n f), .p (natT xs)] = some (.p (tabT xs.length (fun a b => f (at0 xs a) (at0 xs b))), [none, none]) := by
  refine mk_rt (ρ0 := [.val (.p (tabT n f)), .val (.p (natT xs))]) rfl rfl (runs_nx (r_exp (e_call (os := [none]) (ds := [.p (tabT n f)]) (a_rv (e_nm rfl) a_nil) rfl (c_check_table t) rfl))
    (runs_nx (r_exp (e_call (os := [none, none]) (ds := [.p (tabT n f), .p (natT xs)]) (a_rv (e_nm rfl) (a_rv (e_nm rfl) a_nil)) rfl (c_check_lot l t.n7) rfl))
      (runs_rt (r_ret (e_call (os := [none, none]) (ds := [.p (tabT n f), .p (natT xs)]) (a_rv (e_nm rfl) (a_rv (e_nm rfl) a_nil)) rfl (c_raw_part l.lt (lim7 (Nat.le_trans l.len t.n7))) rfl))))) rfl rfl
theorem c_are_all (p : Pm n xs) (h7 : n ≤ 7) : C_are_all [.p (natT xs), .p (.int n)] = some (.p (.bl true), [none, none]) := by
  have hL : xs.length ≤ LIM := by rw [p.len]; exact lim7 h7
  have hs : C_is_sized [.p (natT xs), .p (.int n), .p (.int n)] = some (.p (.bl true), [none, none, none]) := (c_is_sized (xs.map fun (k : Nat) => .int (k : Int)) n n).trans (by simp [p.len])
  have c2 : ev [C_is_within, C_is_sized] false (.or_ (.not_ (.call 1 [(.nm 0), (.nm 1), (.nm 1)])) (.not_ (.op .all [(.comp (.call 0 [(.nm 2), (.cst (.int 0)), (.op .sub [(.nm 1), (.cst (.int 1))])]) (.one 2) 0 [(.nm 0)] [])]))) [.val (.p (natT xs)), .val (.p (.int n)), .no] = some (.rv (.p (.bl false)), [.val (.p (natT xs)), .val (.p (.int n)), .no]) :=
    e_orf (e_not (k := true) (e_call (os := [none, none, none]) (ds := [.p (natT xs), .p (.int n), .p (.int n)]) (a_rv (e_nm rfl) (a_rv (e_nm rfl) (a_rv (e_nm rfl) a_nil))) rfl hs rfl)) (e_not (within_comp rfl hL p.lt))
  have c3 : ev [C_is_within, C_is_sized] false (.op .eq [(.op .sorted [(.nm 0)]), (.op .lrng1 [(.nm 1)])]) [.val (.p (natT xs)), .val (.p (.int n)), .no] = some (.rv (.p (.bl true)), [.val (.p (natT xs)), .val (.p (.int n)), .no]) := by
    refine e_bin (e_un (e_nm rfl) (x := .p (natT xs)) (d := L ((List.range n).map fun (k : Nat) => T.int (k : Int))) ?_) (e_un (e_nm rfl) (x := .p (.int n)) (d := L ((List.range n).map fun (k : Nat) => T.int (k : Int))) ?_) ?_
    · simp only [opD, sortedD, seqT, natT, intsOf_map xs fun (k : Nat) => (k : Int), p.sorted, List.map_map]; rfl
    · have : n ≤ LIM := lim7 h7
      simp [opD, lrng1D, rngOk, rngL, this]; omega
    · have ok : okD (L ((List.range n).map fun (k : Nat) => T.int (k : Int))) = true := by
        simp only [okD, L, items, pures_map, List.all_map, Function.comp_def, okT]
        simp
      simp only [opD, eqOp]
      rw [show eqD (L ((List.range n).map fun (k : Nat) => T.int (k : Int))) (L ((List.range n).map fun (k : Nat) => T.int (k : Int))) = some true from ?_]
      · rfl
      · unfold L at ok ⊢
        simp only [eqD, ok, Bool.true_or, if_true, items, pures_map, eqTs_refl]
  exact mk_rt (ρ0 := [.val (.p (natT xs)), .val (.p (.int n)), .no]) rfl rfl (runs_nx (run_ite_f (t_rv c2) runs_0) (runs_rt (r_ret c3))) rfl rfl
theorem e_mth {Γ : List CT} {q : Bool} {ρ ρ1 ρ2 : List S} {o : Op} {a b : Ex} {x y d : D} (h1 : ev Γ q a ρ = some (.rv x, ρ1)) (h2 : ev Γ q b ρ1 = some (.rv y, ρ2)) (hk : sameK x x = true) (h3 : opD o [x, y] = some d) : ev Γ q (.mth o a b) ρ = some (.rv d, ρ2) := by
  rw [show ev Γ q (.mth o a b) ρ = _ from ev_5 .., h1]
  simp only [lent, Bool.or_false, h2, valR, hk, if_true, h3, Option.map_some]
theorem idxT_nat {k : Nat} : ∀ {xs : List Nat}, k ∈ xs → idxT (.int (k : Int)) (xs.map fun (k : Nat) => .int (k : Int)) = some (xs.idxOf k)
  | x :: r, h => by
    rw [List.map_cons, idxT, List.idxOf_cons]
    by_cases e : x = k
    · subst e; simp [eqT]
    · have h2 : eqT (.int (x : Int)) (.int (k : Int)) = false := by simp [eqT]; omega
      have h3 : (x == k) = false := by simpa using e
      rw [h2, h3, idxT_nat ((List.mem_cons.mp h).resolve_left fun z => e z.symm)]
      rfl
theorem c_raw_renamed (p : Pm n xs) (h7 : n ≤ 7) : C_raw_renamed [.p (tabT n f), .p (natT xs)] = some (.p (tabT n (fun a b => f (xs.idxOf a) (xs.idxOf b))), [none, none]) := by
  have hL : n ≤ LIM := lim7 h7
  have c1 : ev [C_raw_part] false (.comp (.mth .index (.nm 1) (.nm 3)) (.one 3) 1 [(.op .len [(.nm 1)])] []) [.val (.p (tabT n f)), .val (.p (natT xs)), .no, .no] = some (.rv (.l ((List.range n).map fun k => .p (.int (xs.idxOf k : Nat)))), [.val (.p (tabT n f)), .val (.p (natT xs)), .no, .no]) := by
    refine ev_compN (List.range n) (fun k => .p (.int (0 + (k : Nat)))) _ (w := .rng 0 n) rfl rfl (rs := [.rv (.p (.int n))]) (ρ1 := [.val (.p (tabT n f)), .val (.p (natT xs)), .no, .no]) (a_rv (e_un (e_nm rfl) (x := .p (natT xs)) (by rw [← p.len]; exact nat_len)) a_nil) ?_ (by simpa using hL) rfl fun k hk => ⟨_, rfl, rfl, ?_⟩
    · simp [srcK, valR, rngS, rngOk]; omega
    · have hm : k ∈ xs := p.mem (List.mem_range.mp hk)
      refine e_mth (x := .p (natT xs)) (y := .p (.int (k : Nat))) (e_nm rfl) (e_nm (by simp [put, look])) rfl ?_
      simp only [opD, indexD, natT, seqT, okT, idxT_nat hm, I, if_true, Option.map_some]
  have hr := c_raw_partL (f := f) (n := n) (xs := (List.range n).map fun k => xs.idxOf k) (fun x hx => by
    obtain ⟨k, hk, rfl⟩ := List.mem_map.mp hx
    have := List.idxOf_lt_length_of_mem (p.mem (List.mem_range.mp hk))
    rw [p.len] at this
    exact this) (by simpa using hL)
  rw [List.map_map] at hr
  have c2 : ev [C_raw_part] false (.call 0 [(.nm 0), (.nm 2)]) [.val (.p (tabT n f)), .val (.p (natT xs)), .val (.l ((List.range n).map fun k => .p (.int (xs.idxOf k : Nat)))), .no] = some (.rv (.p (tabT n (fun a b => f (xs.idxOf a) (xs.idxOf b)))), [.val (.p (tabT n f)), .val (.p (natT xs)), .val (.l ((List.range n).map fun k => .p (.int (xs.idxOf k : Nat)))), .no]) := by
    have e : tabT ((List.range n).map fun k => xs.idxOf k).length (fun a b => f (at0 ((List.range n).map fun k => xs.idxOf k) a) (at0 ((List.range n).map fun k => xs.idxOf k) b)) = tabT n (fun a b => f (xs.idxOf a) (xs.idxOf b)) := by
      rw [List.length_map, List.length_range]
      unfold tabT rowT
      refine congrArg T.tup (List.map_congr_left fun a ha => congrArg T.tup (List.map_congr_left fun b hb => congrArg T.int ?_))
      have ha := List.mem_range.mp ha
      have hb := List.mem_range.mp hb
      simp [at0, ha, hb]
    rw [e] at hr
    rw [ev_15, a_rv (e_nm rfl) (a_nm (e_nml rfl) a_nil)]
    simp only [List.getElem?_cons_zero, callD, vals, valR, look, nms, nodupB, List.contains_nil, Bool.not_false, Bool.true_and, Bool.true_or]
    rw [show C_raw_part [.p (tabT n f), .l ((List.range n).map fun k => .p (.int (xs.idxOf k : Nat)))] = _ from hr]
    rfl
  exact mk_rt (ρ0 := [.val (.p (tabT n f)), .val (.p (natT xs)), .no, .no]) rfl rfl (runs_nx (r_asg c1) (runs_rt (r_ret c2))) rfl rfl
theorem c_renamed (t : Tab n f) (p : Pm n xs) : C_renamed [.p (tabT n f), .p (natT xs)] = some (.p (tabT n (fun a b => f (xs.idxOf a) (xs.idxOf b))), [none, none]) := by
  refine mk_rt (ρ0 := [.val (.p (tabT n f)), .val (.p (natT xs))]) rfl rfl (runs_nx (r_exp (e_call (os := [none]) (ds := [.p (tabT n f)]) (a_rv (e_nm rfl) a_nil) rfl (c_check_table t) rfl))
    (runs_nx (run_ite_f (t_rv (e_not (k := true) (e_call (os := [none, none]) (ds := [.p (natT xs), .p (.int n)]) (a_rv (e_nm rfl) (a_rv (len_tab rfl) a_nil)) rfl (c_are_all p t.n7) rfl))) runs_0)
      (runs_rt (r_ret (e_call (os := [none, none]) (ds := [.p (tabT n f), .p (natT xs)]) (a_rv (e_nm rfl) (a_rv (e_nm rfl) a_nil)) rfl (c_raw_renamed p t.n7) rfl))))) rfl rfl
theorem Tab.part (t : Tab n f) (l : Lot n xs) : Tab xs.length (fun a b => f (at0 xs a) (at0 xs b)) := by
  have h : ∀ i, i < xs.length → at0 xs i < n := fun i hi => by simp only [at0, List.getElem?_eq_getElem hi]; exact l.lt _ (List.getElem_mem hi)
  refine ⟨List.length_pos_iff.mpr l.ne, Nat.le_trans l.len t.n7, fun i j hi hj => t.b0 _ _ (h i hi) (h j hj), fun i j hi hj => ?_, fun i j hi hj => t.sy _ _ (h i hi) (h j hj)⟩
  refine (t.dz _ _ (h i hi) (h j hj)).trans ⟨fun e => ?_, fun e => by rw [e]⟩
  simp only [at0, List.getElem?_eq_getElem hi, List.getElem?_eq_getElem hj, Option.getD_some] at e
  have up := List.pairwise_iff_getElem.mp l.up
  rcases Nat.lt_trichotomy i j with z | z | z
  · have := up i j hi hj z; omega
  · exact z
  · have := up j i hj hi z; omega
theorem Tab.ren (t : Tab n f) (p : Pm n xs) : Tab n (fun a b => f (xs.idxOf a) (xs.idxOf b)) := by
  have h : ∀ i, i < n → xs.idxOf i < n := fun i hi => by
    have := List.idxOf_lt_length_of_mem (p.mem hi)
    rw [p.len] at this
    exact this
  refine ⟨t.n1, t.n7, fun i j hi hj => t.b0 _ _ (h i hi) (h j hj), fun i j hi hj => ?_, fun i j hi hj => t.sy _ _ (h i hi) (h j hj)⟩
  refine (t.dz _ _ (h i hi) (h j hj)).trans ⟨fun e => ?_, fun e => by rw [e]⟩
  have h1 := List.getElem_idxOf (List.idxOf_lt_length_of_mem (p.mem hi))
  have h2 := List.getElem_idxOf (List.idxOf_lt_length_of_mem (p.mem hj))
  rw [← h1, ← h2]
  simp only [e]
end
end K63

set_option Elab.async false
set_option linter.all false
set_option maxRecDepth 100000
namespace K63
open PF
section
variable {n m : Nat} {f g : Nat → Nat → Int} {xs : List Nat}
theorem e_bin_nm {Γ : List CT} {q : Bool} {ρ ρ1 ρ2 : List S} {o : Op} {a b : Ex} {x y d : D} {i : Nat} (h1 : ev Γ q a ρ = some (.nm i, ρ1)) (h2 : ev Γ q b ρ1 = some (.rv y, ρ2)) (hl : look ρ2 i = .val x) (h3 : opD o [x, y] = some d) : ev Γ q (.op o [a, b]) ρ = some (.rv d, ρ2) := by
  rw [ev_3, evL_2, h1]
  simp only [lent, Bool.or_false, evL_2, h2, evL_1, vals, valR, hl, h3]
/-- all orders -/
def cN (_ : Nat) (row : List Nat) (x : Nat) : Bool := !decide (x ∈ row)
theorem names_comp {F : List (List Nat)} {row : List Nat} {s2 s3 : S} (h7 : n ≤ 7) (hr : row.length ≤ 7) : ev [] false (.comp (.op .add [(.nm 4), (.tup [(.nm 5)])]) (.one 5) 1 [(.nm 0)] [(.op .nin [(.nm 5), (.nm 4)])]) [.val (.p (.int n)), .val (.l (F.map encR)), s2, s3, .val (encR row), .no] = some (.rv (.l ((ext n (cN 0) row).map encR)), [.val (.p (.int n)), .val (.l (F.map encR)), s2, s3, .val (encR row), .no]) := by
  have h := ev_compC (Γ := []) (q := false) (ρ := [.val (.p (.int n)), .val (.l (F.map encR)), s2, s3, .val (encR row), .no]) (elt := .op .add [(.nm 4), (.tup [(.nm 5)])]) (tg := .one 5) (kind := 1) (src := [.nm 0]) (c := .op .nin [(.nm 5), (.nm 4)]) (List.range n) (fun k => .p (.int (0 + (k : Nat)))) (fun k => encR (row ++ [k])) (cN 0 row) (w := .rng 0 n) rfl rfl (rs := [.rv (.p (.int n))]) (ρ1 := [.val (.p (.int n)), .val (.l (F.map encR)), s2, s3, .val (encR row), .no]) (ρ0 := [.val (.p (.int n)), .val (.l (F.map encR)), s2, s3, .val (encR row), .no]) (a_rv (e_nm rfl) a_nil) (by simp [srcK, valR, rngS, rngOk]; omega) (by simpa using lim7 h7) rfl (fun k hk => by
    refine ⟨_, .rv (.p (.bl (cN 0 row k))), [.val (.p (.int n)), .val (.l (F.map encR)), s2, s3, .val (encR row), .val (.p (.int (0 + (k : Nat))))], rfl, e_bin (e_nm rfl) (e_nm rfl) (x := .p (.int (0 + (k : Nat)))) (y := .p (natT row)) ?_, rfl, fun _ => rfl, fun _ => ⟨.rv (encR (row ++ [k])), [.val (.p (.int n)), .val (.l (F.map encR)), s2, s3, .val (encR row), .val (.p (.int (0 + (k : Nat))))], [.val (.p (.int n)), .val (.l (F.map encR)), s2, s3, .val (encR row), .val (.p (.int (0 + (k : Nat))))], ?_, rfl, rfl⟩⟩
    · rw [Int.zero_add]; exact nin_nat
    · have ht : ev [] false (.tup [.nm 5]) [.val (.p (.int n)), .val (.l (F.map encR)), s2, s3, .val (encR row), .val (.p (.int (0 + (k : Nat))))] = some (.rv (.p (.tup [.int (0 + (k : Nat))])), [.val (.p (.int n)), .val (.l (F.map encR)), s2, s3, .val (encR row), .val (.p (.int (0 + (k : Nat))))]) := by
        rw [show ev [] false (.tup _) _ = _ from ev_7 .., a_rv (e_nm rfl) a_nil]
        simp [ownL, PF.own, mkTup, pures, lim1]
      refine e_bin (e_nm rfl) ht (x := .p (natT row)) ?_
      have hL : row.length + 1 ≤ LIM := Nat.le_trans (Nat.add_le_add_right hr 1) (Nat.le_of_ble_eq_true rfl)
      simp [opD, addD, natT, encR, hL])
  rw [h, ext, List.map_map]; rfl
theorem pures_enc (l : List (List Nat)) : pures (l.map encR) = some (l.map natT) := pures_encR l
theorem names_rows {F : List (List Nat)} {s2 : S} (h7 : n ≤ 7) (hr : ∀ row ∈ F, row.length ≤ 7) (hl : (F.flatMap (ext n (cN 0))).length ≤ LIM) :
    PF.run [] (.for_ (.one 4) 0 [(.nm 1)] [.asg 3 (.op .add [(.nm 3), (.comp (.op .add [(.nm 4), (.tup [(.nm 5)])]) (.one 5) 1 [(.nm 0)] [(.op .nin [(.nm 5), (.nm 4)])])])] [4]) [.val (.p (.int n)), .val (.l (F.map encR)), s2, .val (.l []), .no, .no] =
      some (.nx [.val (.p (.int n)), .val (.l (F.map encR)), s2, .val (.l ((F.flatMap (ext n (cN 0))).map encR)), .no, .no]) := by
  have key := run_forD (Γ := []) (tg := .one 4) (kind := 0) (src := [.nm 1]) (body := [.asg 3 (.op .add [(.nm 3), (.comp (.op .add [(.nm 4), (.tup [(.nm 5)])]) (.one 5) 1 [(.nm 0)] [(.op .nin [(.nm 5), (.nm 4)])])])]) (dead := [4]) (n := F.length) (w := .one (.live 1 F.length)) (rs := [.nm 1])
    (ρ := [.val (.p (.int n)), .val (.l (F.map encR)), s2, .val (.l []), .no, .no]) (ρ1 := [.val (.p (.int n)), .val (.l (F.map encR)), s2, .val (.l []), .no, .no])
    (fun r => [.val (.p (.int n)), .val (.l (F.map encR)), s2, .val (.l (((F.take r).flatMap (ext n (cN 0))).map encR)), .no, .no]) rfl (a_nm (e_nml rfl) a_nil) (by simp [srcK, sqOf, look, pures_encR]) rfl (by simp [kill, put]) (fun r hrl => ?_) (by simp [Wk.ok, Sq.ok, look])
  · rw [List.take_length] at key
    exact key
  · have hrow : F[r] ∈ F := List.getElem_mem hrl
    have e : F.take (r + 1) = F.take r ++ [F[r]] := List.take_succ_eq_append_getElem hrl
    have hle : (((F.take r).flatMap (ext n (cN 0))) ++ ext n (cN 0) F[r]).length ≤ LIM := by
      refine Nat.le_trans ?_ hl
      conv => rhs; rw [← List.take_append_drop (r + 1) F, List.flatMap_append, List.length_append, e, List.flatMap_append]
      simp
    refine ⟨encR F[r], _, .nx [.val (.p (.int n)), .val (.l (F.map encR)), s2, .val (.l (((F.take r).flatMap (ext n (cN 0)) ++ ext n (cN 0) F[r]).map encR)), .val (encR F[r]), .no], by simp [Wk.at, Sq.at, liveAt, look, hrl, encR], rfl, ?_, ?_⟩
    · refine runs_one (r_asg (e_bin_nm (e_nml rfl) (names_comp h7 (hr _ hrow)) rfl ?_))
      rw [List.length_append] at hle
      have hm : ∀ l : List (List Nat), (l.map natT).map D.p = l.map encR := fun l => by rw [List.map_map]; rfl
      simp only [opD, addD, pures_encR, List.length_map, hle, if_true, L, List.map_append, hm]
    · simp only [killO, kill, put]
      rw [e, List.flatMap_append]
      simp
theorem lvl_c (c c' : Nat → List Nat → Nat → Bool) (h : ∀ p, c p = c' p) : ∀ p, lvl n c p = lvl n c' p
  | 0 => rfl
  | p + 1 => by simp only [lvl, lvl_c c c' h p, h]
theorem c_law_names (h7 : n ≤ 7) : C__law_names [.p (.int n)] = some (.l ((lvl n cN n).map encR), [none]) := by
  have key := run_forD (Γ := []) (tg := .one 2) (kind := 1) (src := [.nm 0]) (body := [.asg 3 (.lst []), .for_ (.one 4) 0 [(.nm 1)] [.asg 3 (.op .add [(.nm 3), (.comp (.op .add [(.nm 4), (.tup [(.nm 5)])]) (.one 5) 1 [(.nm 0)] [(.op .nin [(.nm 5), (.nm 4)])])])] [4], .asg 1 (.nm 3)]) (dead := [2, 3, 4]) (n := n) (w := .rng 0 n) (rs := [.rv (.p (.int n))])
    (ρ := [.val (.p (.int n)), .val (.l [encR []]), .no, .no, .no, .no]) (ρ1 := [.val (.p (.int n)), .val (.l [encR []]), .no, .no, .no, .no])
    (fun p => [.val (.p (.int n)), .val (.l ((lvl n cN p).map encR)), .no, .no, .no, .no]) rfl (a_rv (e_nm rfl) a_nil) (by simp [srcK, valR, rngS, rngOk]; omega) rfl rfl (fun p hp => ?_) rfl
  · have e0 : evOwn [] (.lst [.tup []]) [.val (.p (.int n)), .no, .no, .no, .no, .no] = some (.l [encR []], [.val (.p (.int n)), .no, .no, .no, .no, .no]) := by
      simp [ev_1, ev_2, ev_3, ev_4, ev_5, ev_6, ev_7, ev_8, ev_9, ev_10, ev_11, ev_12, ev_13, ev_15, evL_1, evL_2, ownL, evT_1, evT_2, evOwn_1, evTest_1, PF.own, mkTup, pures, lim1, encR, natT]
    exact mk_rt (ρ0 := [.val (.p (.int n)), .no, .no, .no, .no, .no]) rfl rfl (runs_nx (run_asg e0) (runs_nx key (runs_rt (run_ret (own_l rfl))))) rfl rfl
  · have e1 : ∀ st : List S, evOwn [] (.lst []) st = some (.l [], st) := fun st => by
      have : 0 ≤ LIM := Nat.zero_le _
      simp [ev_1, ev_2, ev_3, ev_4, ev_5, ev_6, ev_7, ev_8, ev_9, ev_10, ev_11, ev_12, ev_13, ev_15, evL_1, evL_2, ownL, evT_1, evT_2, evOwn_1, evTest_1, PF.own]
    have hl := lvl_lim (m := n) (n := n) (c := cN) h7 h7 (show p + 1 ≤ n by omega)
    refine ⟨.p (.int (p : Nat)), _, .nx [.val (.p (.int n)), .val (.l ((lvl n cN (p + 1)).map encR)), .val (.p (.int (p : Nat))), .no, .no, .no], by simp [Wk.at, hp, I], rfl, ?_, rfl⟩
    exact runs_nx (run_asg (e1 _)) (runs_nx (names_rows h7 (fun row hrow => by have := (lvl_len p row hrow).1; omega) (by have : (lvl n cN (p + 1)) = (lvl n cN p).flatMap (ext n (cN 0)) := rfl; rw [← this]; omega)) (runs_one (run_asg (own_l rfl))))
end
end K63

set_option Elab.async false
set_option linter.all false
set_option maxRecDepth 100000
namespace K63
open PF
def rowL (n : Nat) (g : Nat → Int) : D := .l ((List.range n).map fun j => .p (.int (g j)))
def matD (n : Nat) (g : Nat → Nat → Int) : D := .l ((List.range n).map fun i => rowL n (g i))
def upd2 (g : Nat → Nat → Int) (i j : Nat) (v : Int) (a b : Nat) : Int := if a = i ∧ b = j then v else g a b
theorem set_range {α : Type} (n : Nat) (F : Nat → α) (m : Nat) (y : α) : ((List.range n).map F).set m y = (List.range n).map fun k => if k = m then y else F k := by
  refine List.ext_getElem (by simp) fun i h1 h2 => ?_
  simp only [List.getElem_set, List.getElem_map, List.getElem_range]
  by_cases h : m = i
  · subst h; simp
  · rw [if_neg h, if_neg fun z => h z.symm]
theorem mat_set {n i j : Nat} {g : Nat → Nat → Int} {v : Int} : (D.l (((List.range n).map fun i => rowL n (g i)).set i (.l (((List.range n).map fun b => D.p (.int (g i b))).set j (.p (.int v)))))) = matD n (upd2 g i j v) := by
  rw [set_range, set_range]
  unfold matD rowL
  refine congrArg D.l (List.map_congr_left fun a _ => ?_)
  by_cases ha : a = i
  · subst ha
    rw [if_pos rfl]
    refine congrArg D.l (List.map_congr_left fun b _ => ?_)
    by_cases hb : b = j
    · subst hb; simp [upd2]
    · simp [upd2, hb]
  · rw [if_neg ha]
    refine congrArg D.l (List.map_congr_left fun b _ => ?_)
    simp [upd2, ha]
theorem mat_store {Γ : List CT} {n i j x y : Nat} {g : Nat → Nat → Int} {v : Int} {ρ : List S} (hi : i < n) (hj : j < n) (h3 : look ρ 3 = .val (matD n g)) (hx : look ρ x = .val (.p (.int (i : Nat)))) (hy : look ρ y = .val (.p (.int (j : Nat)))) : store Γ (.p (.int v)) ρ (.s2 3 (.nm x) (.nm y)) = some (put ρ 3 (.val (matD n (upd2 g i j v)))) := by
  have ex := e_nm (Γ := Γ) (q := true) hx
  have ey := e_nm (Γ := Γ) (q := true) hy
  simp only [store, ex, ey, valR, h3, matD, List.length_map, List.length_range, ixN_nat hi, List.getElem?_map, List.getElem?_range hi, Option.map_some, rowL, ixN_nat hj]
  exact congrArg (fun d => some (put ρ 3 (S.val d))) mat_set
theorem mat_get {Γ : List CT} {n i j : Nat} {g : Nat → Nat → Int} {ρ : List S} (hi : i < n) (hj : j < n) (h3 : look ρ 3 = .val (matD n g)) (hx : look ρ 4 = .val (.p (.int (i : Nat)))) (hy : look ρ 5 = .val (.p (.int (j : Nat)))) : ev Γ false (.idx (.idx (.nm 3) (.nm 4)) (.nm 5)) ρ = some (.rv (.p (.int (g i j))), ρ) := by
  have h1 : ev Γ false (.idx (.nm 3) (.nm 4)) ρ = some (.bv (rowL n (g i)), ρ) := by
    have ex : ∀ q, ev Γ q (.nm 4) ρ = some (.rv (.p (.int (i : Nat))), ρ) := fun q => e_nm hx
    rw [ev_4, e_nml (show look ρ 3 = .val (.l _) from h3)]
    simp only [ex, valR, h3, matD, atI_nat (xs := (List.range n).map fun i => rowL n (g i)) (i := i) (by simpa using hi), List.getElem?_map, List.getElem?_range hi, Option.map_some]
    rfl
  have ey : ∀ q, ev Γ q (.nm 5) ρ = some (.rv (.p (.int (j : Nat))), ρ) := fun q => e_nm hy
  rw [ev_4, h1]
  simp only [ey, valR, rowL, atI_nat (xs := (List.range n).map fun b => D.p (.int (g i b))) (i := j) (by simpa using hj), List.getElem?_map, List.getElem?_range hj, Option.map_some]
structure RawI (top : Int) (i j : Nat) (g : Nat → Nat → Int) : Prop where
  sy : ∀ a b, g a b = g b a
  dz : ∀ a, g a a = 0
  ok : ∀ a b, a < b → (b < i ∨ (b = i ∧ a < j)) → 1 ≤ g a b ∧ g a b ≤ top
theorem RawI.step {top : Int} {i j : Nat} {g : Nat → Nat → Int} {v : Int} (h : RawI top i j g) (hj : j < i) (hv : 1 ≤ v ∧ v ≤ top) : RawI top i (j + 1) (upd2 (upd2 g i j v) j i v) := by
  refine ⟨fun a b => ?_, fun a => ?_, fun a b hab hd => ?_⟩
  · have := h.sy a b
    unfold upd2
    repeat' split
    all_goals first | rfl | omega
  · have := h.dz a
    unfold upd2
    repeat' split
    all_goals first | rfl | omega
  · unfold upd2
    by_cases e : a = j ∧ b = i
    · rw [if_pos e]; exact hv
    · rw [if_neg e, if_neg (by omega)]
      exact h.ok a b hab (by omega)
section
variable {n : Nat} {top : Int}
/-- one cell drawn -/
theorem raw_cell {h : D} (hh : IsHand h) (ht : 0 < top) (ht2 : top ≤ 3) {i j : Nat} {g : Nat → Nat → Int} {s6 s7 : S} (hi : i < n) (hj : j < i) (hg : RawI top i j g) :
    ∃ h' g', IsHand h' ∧ RawI top i (j + 1) g' ∧ runs [C__law_draw] [.asg1 (.s2 3 (.nm 4) (.nm 5)) (.op .add [(.cst (.int 1)), (.call 0 [(.nm 0), (.nm 2)])]), .asg1 (.s2 3 (.nm 5) (.nm 4)) (.idx (.idx (.nm 3) (.nm 4)) (.nm 5))] [.val h, .val (.p (.int n)), .val (.p (.int top)), .val (matD n g), .val (.p (.int (i : Nat))), .val (.p (.int (j : Nat))), s6, s7] =
      some (.nx [.val h', .val (.p (.int n)), .val (.p (.int top)), .val (matD n g'), .val (.p (.int (i : Nat))), .val (.p (.int (j : Nat))), s6, s7]) := by
  obtain ⟨r, h', e1, ⟨r0, r1⟩, hh'⟩ := c_draw hh ht (by
    have : top = 1 ∨ top = 2 ∨ top = 3 := by omega
    rcases this with rfl | rfl | rfl <;> decide)
  have hl : ∃ ds, h = .l ds := by obtain ⟨_, _, _, _, _, rfl⟩ := hh; exact ⟨_, rfl⟩
  obtain ⟨ds, rfl⟩ := hl
  have c1 : ev [C__law_draw] false (.op .add [(.cst (.int 1)), (.call 0 [(.nm 0), (.nm 2)])]) [.val (.l ds), .val (.p (.int n)), .val (.p (.int top)), .val (matD n g), .val (.p (.int (i : Nat))), .val (.p (.int (j : Nat))), s6, s7] = some (.rv (.p (.int (1 + r))), [.val h', .val (.p (.int n)), .val (.p (.int top)), .val (matD n g), .val (.p (.int (i : Nat))), .val (.p (.int (j : Nat))), s6, s7]) :=
    e_bin e_cst (e_callh (os := [none]) (ds := [.p (.int top)]) (i := 0) (a_nm (e_nml rfl) (a_rv (e_nm rfl) a_nil)) rfl rfl e1 rfl) rfl
  refine ⟨h', _, hh', hg.step (v := 1 + r) hj ⟨by omega, by omega⟩, ?_⟩
  refine runs_nx (run_asg1 (o_rv c1) (mat_store hi (by omega) rfl rfl rfl)) (runs_one (run_asg1 (o_rv (mat_get (g := upd2 g i j (1 + r)) hi (by omega) rfl rfl rfl)) ?_))
  have e : upd2 g i j (1 + r) i j = 1 + r := by simp [upd2]
  rw [e]
  exact mat_store (by omega) hi rfl rfl rfl
theorem raw_row {h : D} (hh : IsHand h) (ht : 0 < top) (ht2 : top ≤ 3) (h7 : n ≤ 7) {i : Nat} {g : Nat → Nat → Int} (hi : i < n) (hg : RawI top i 0 g) :
    ∃ h' g', IsHand h' ∧ RawI top i i g' ∧ PF.run [C__law_draw] (.for_ (.one 5) 1 [(.nm 4)] [.asg1 (.s2 3 (.nm 4) (.nm 5)) (.op .add [(.cst (.int 1)), (.call 0 [(.nm 0), (.nm 2)])]), .asg1 (.s2 3 (.nm 5) (.nm 4)) (.idx (.idx (.nm 3) (.nm 4)) (.nm 5))] [5]) [.val h, .val (.p (.int n)), .val (.p (.int top)), .val (matD n g), .val (.p (.int (i : Nat))), .no, .no, .no] =
      some (.nx [.val h', .val (.p (.int n)), .val (.p (.int top)), .val (matD n g'), .val (.p (.int (i : Nat))), .no, .no, .no]) := by
  obtain ⟨ρ', hr, h', g', k1, k2, k3⟩ := run_forI (Γ := [C__law_draw]) (tg := .one 5) (kind := 1) (src := [.nm 4]) (body := [.asg1 (.s2 3 (.nm 4) (.nm 5)) (.op .add [(.cst (.int 1)), (.call 0 [(.nm 0), (.nm 2)])]), .asg1 (.s2 3 (.nm 5) (.nm 4)) (.idx (.idx (.nm 3) (.nm 4)) (.nm 5))]) (dead := [5]) (rs := [.rv (.p (.int i))]) (w := .rng 0 i)
    (ρ := [.val h, .val (.p (.int n)), .val (.p (.int top)), .val (matD n g), .val (.p (.int (i : Nat))), .no, .no, .no]) (ρ1 := [.val h, .val (.p (.int n)), .val (.p (.int top)), .val (matD n g), .val (.p (.int (i : Nat))), .no, .no, .no]) (a_rv (e_nm rfl) a_nil) (by simp [srcK, valR, rngS, rngOk]; omega) rfl
    (fun j ρ => ∃ h g, IsHand h ∧ RawI top i j g ∧ ρ = [.val h, .val (.p (.int n)), .val (.p (.int top)), .val (matD n g), .val (.p (.int (i : Nat))), .no, .no, .no]) ⟨h, g, hh, hg, rfl⟩ (fun j ρ hj ⟨h, g, hh, hg, hρ⟩ => by
      have hj : j < i := hj
      subst hρ
      obtain ⟨h', g', k1, k2, k3⟩ := raw_cell (s6 := .no) (s7 := .no) hh ht ht2 hi hj hg
      exact ⟨.p (.int (j : Nat)), _, _, _, by simp [Wk.at, hj, I], rfl, k3, rfl, h', g', k1, k2, rfl⟩) (fun _ _ => rfl)
  subst k3
  exact ⟨h', g', k1, k2, hr⟩
theorem raw_loop {h : D} (hh : IsHand h) (ht : 0 < top) (ht2 : top ≤ 3) (h7 : n ≤ 7) {g : Nat → Nat → Int} (hg : RawI top 0 0 g) :
    ∃ h' g', IsHand h' ∧ RawI top n 0 g' ∧ PF.run [C__law_draw] (.for_ (.one 4) 1 [(.nm 1)] [.for_ (.one 5) 1 [(.nm 4)] [.asg1 (.s2 3 (.nm 4) (.nm 5)) (.op .add [(.cst (.int 1)), (.call 0 [(.nm 0), (.nm 2)])]), .asg1 (.s2 3 (.nm 5) (.nm 4)) (.idx (.idx (.nm 3) (.nm 4)) (.nm 5))] [5]] [4, 5]) [.val h, .val (.p (.int n)), .val (.p (.int top)), .val (matD n g), .no, .no, .no, .no] =
      some (.nx [.val h', .val (.p (.int n)), .val (.p (.int top)), .val (matD n g'), .no, .no, .no, .no]) := by
  obtain ⟨ρ', hr, h', g', k1, k2, k3⟩ := run_forI (Γ := [C__law_draw]) (tg := .one 4) (kind := 1) (src := [.nm 1]) (body := [.for_ (.one 5) 1 [(.nm 4)] [.asg1 (.s2 3 (.nm 4) (.nm 5)) (.op .add [(.cst (.int 1)), (.call 0 [(.nm 0), (.nm 2)])]), .asg1 (.s2 3 (.nm 5) (.nm 4)) (.idx (.idx (.nm 3) (.nm 4)) (.nm 5))] [5]]) (dead := [4, 5]) (rs := [.rv (.p (.int n))]) (w := .rng 0 n)
    (ρ := [.val h, .val (.p (.int n)), .val (.p (.int top)), .val (matD n g), .no, .no, .no, .no]) (ρ1 := [.val h, .val (.p (.int n)), .val (.p (.int top)), .val (matD n g), .no, .no, .no, .no]) (a_rv (e_nm rfl) a_nil) (by simp [srcK, valR, rngS, rngOk]; omega) rfl
    (fun i ρ => ∃ h g, IsHand h ∧ RawI top i 0 g ∧ ρ = [.val h, .val (.p (.int n)), .val (.p (.int top)), .val (matD n g), .no, .no, .no, .no]) ⟨h, g, hh, hg, rfl⟩ (fun i ρ hi ⟨h, g, hh, hg, hρ⟩ => by
      have hi : i < n := hi
      subst hρ
      obtain ⟨h', g', k1, k2, k3⟩ := raw_row hh ht ht2 h7 hi hg
      exact ⟨.p (.int (i : Nat)), _, _, _, by simp [Wk.at, hi, I], rfl, runs_one k3, rfl, h', g', k1, ⟨k2.sy, k2.dz, fun a b hab hd => k2.ok a b hab (by omega)⟩, rfl⟩) (fun _ _ => rfl)
  subst k3
  exact ⟨h', g', k1, k2, hr⟩
def tupD : D → Option D
  | .l es => (pures es).map fun ts => .p (.tup ts)
  | _ => none
theorem raw_end {h : D} {g : Nat → Nat → Int} (h7 : n ≤ 7) (h1 : 1 ≤ n) : ev [C__law_draw] false (.op .tuple [(.comp (.op .tuple [(.nm 7)]) (.one 7) 0 [(.nm 3)] [])]) [.val h, .val (.p (.int n)), .val (.p (.int top)), .val (matD n g), .no, .no, .no, .no] = some (.rv (.p (tabT n g)), [.val h, .val (.p (.int n)), .val (.p (.int top)), .val (matD n g), .no, .no, .no, .no]) := by
  have hp : ∀ i, pures ((List.range n).map fun j => D.p (.int (g i j))) = some ((List.range n).map fun j => .int (g i j)) := fun i => pures_mapP _ fun j => T.int (g i j)
  have c1 := ev_compF (Γ := [C__law_draw]) (q := false) (ρ := [.val h, .val (.p (.int n)), .val (.p (.int top)), .val (matD n g), .no, .no, .no, .no]) (elt := .op .tuple [(.nm 7)]) (tg := .one 7) (kind := 0) (src := [.nm 3]) (conds := []) (rs := [.nm 3]) (ds := (List.range n).map fun i => rowL n (g i)) (w := .lent ((List.range n).map fun i => rowL n (g i))) (ρ1 := [.val h, .val (.p (.int n)), .val (.p (.int top)), .val (matD n g), .no, .no, .no, .no]) tupD rfl (a_nm (e_nml rfl) a_nil) ?_ (by simpa using lim7 h7) (fun d hd => by
    obtain ⟨i, hi, rfl⟩ := List.mem_map.mp hd
    refine ⟨[.val h, .val (.p (.int n)), .val (.p (.int top)), .val (matD n g), .no, .no, .no, .bor (rowL n (g i))], rfl, .inr ⟨_, .rv (.p (rowT n (g i))), [.val h, .val (.p (.int n)), .val (.p (.int top)), .val (matD n g), .no, .no, .no, .bor (rowL n (g i))], .p (rowT n (g i)), _, evT_1 .., e_un_bv (x := rowL n (g i)) ?_ ?_, rfl, ?_, rfl⟩⟩
    · rw [ev_1]; rfl
    · simp only [opD, tupleD, seqT, rowL, items, hp, Option.map_some, rowT]
    · simp only [tupD, rowL, hp, Option.map_some, rowT])
  · refine e_un c1 ?_
    have : ((List.range n).map fun i => rowL n (g i)).filterMap tupD = (List.range n).map fun i => .p (rowT n (g i)) := by
      rw [List.filterMap_map]
      rw [show tupD ∘ (fun i => rowL n (g i)) = fun i => some (.p (rowT n (g i))) from funext fun i => by simp only [Function.comp, tupD, rowL, hp, Option.map_some, rowT]]
      rw [List.filterMap_eq_map']
    rw [this]
    simp only [opD, tupleD, seqT, items, pures_mapP (List.range n) fun i => rowT n (g i), Option.map_some, tabT]
  · obtain ⟨k, rfl⟩ : ∃ k, n = k + 1 := ⟨n - 1, by omega⟩
    have hq : pures ((List.range (k + 1)).map fun i => rowL (k + 1) (g i)) = none := by
      rw [List.range_succ_eq_map]; rfl
    simp only [srcK, sqOf, look, matD, hq, Option.map_none, srcL]
theorem rep_row (n : Nat) : (List.replicate n [T.int 0]).flatten = (List.range n).map fun _ => T.int 0 := by
  rw [List.map_const', List.length_range]
  induction n with
  | zero => rfl
  | succ n ih => rw [List.replicate_succ, List.flatten_cons, ih]; rfl
theorem raw_start {h : D} (h7 : n ≤ 7) : ev [C__law_draw] false (.comp (.op .mul [(.lst [(.cst (.int 0))]), (.nm 1)]) (.one 6) 1 [(.nm 1)] []) [.val h, .val (.p (.int n)), .val (.p (.int top)), .no, .no, .no, .no, .no] = some (.rv (matD n fun _ _ => 0), [.val h, .val (.p (.int n)), .val (.p (.int top)), .no, .no, .no, .no, .no]) := by
  refine ev_compN (List.range n) (fun k => .p (.int (0 + (k : Nat)))) (fun _ => rowL n fun _ => 0) (w := .rng 0 n) rfl rfl (rs := [.rv (.p (.int n))]) (ρ1 := [.val h, .val (.p (.int n)), .val (.p (.int top)), .no, .no, .no, .no, .no]) (a_rv (e_nm rfl) a_nil) (by simp [srcK, valR, rngS, rngOk]; omega) (by simpa using lim7 h7) rfl fun k hk => ⟨_, rfl, rfl, ?_⟩
  have hl : ∀ ρ : List S, ev [C__law_draw] false (.lst [(.cst (.int 0))]) ρ = some (.rv (.l [.p (.int 0)]), ρ) := fun ρ => by
    rw [show ev [C__law_draw] false (.lst _) _ = _ from ev_8 .., a_rv e_cst a_nil]
    simp [ownL, PF.own, lim1]
  refine e_bin (hl _) (e_nm rfl) (y := .p (.int n)) ?_
  have hL := lim7 h7
  have h8 : (n : Int) < 2 ^ 63 := by omega
  have h9 : -(2 : Int) ^ 63 ≤ (n : Int) := by omega
  simp only [opD, mulD, pures, Option.map_some, List.length_singleton, Int.toNat_natCast, Nat.one_mul, h8, h9, hL, decide_true, Bool.and_self, if_true, rep_row, L, List.map_map]
  rfl
theorem c_law_raw {h : D} (hh : IsHand h) (ht : 0 < top) (ht2 : top ≤ 3) (h7 : n ≤ 7) (h1 : 1 ≤ n) : ∃ h' g, IsHand h' ∧ Tab n g ∧ C__law_raw [h, .p (.int n), .p (.int top)] = some (.p (tabT n g), [some h', none, none]) := by
  obtain ⟨h', g, k1, k2, k3⟩ := raw_loop (n := n) (g := fun _ _ => 0) hh ht ht2 h7 ⟨fun _ _ => rfl, fun _ => rfl, fun a b hab hd => by omega⟩
  have ok : ∀ a b, a ≠ b → a < n → b < n → 1 ≤ g a b ∧ g a b ≤ top := fun a b hab ha hb => by
    rcases Nat.lt_or_gt_of_ne hab with z | z
    · exact k2.ok a b z (.inl hb)
    · rw [k2.sy a b]; exact k2.ok b a z (.inl ha)
  refine ⟨h', g, k1, ⟨h1, h7, fun i j hi hj => ?_, fun i j hi hj => ⟨fun e => ?_, fun e => by rw [e]; exact k2.dz j⟩, fun i j _ _ => k2.sy i j⟩, ?_⟩
  · by_cases e : i = j
    · subst e; rw [k2.dz]; omega
    · have := ok i j e hi hj; omega
  · by_cases e2 : i = j
    · exact e2
    · have := ok i j e2 hi hj; omega
  · obtain ⟨_, _, _, _, _, rfl⟩ := hh
    obtain ⟨_, _, _, _, _, rfl⟩ := k1
    exact mk_rt (ρ0 := [.val (hs _ _ _ _ _), .val (.p (.int n)), .val (.p (.int top)), .no, .no, .no, .no, .no]) rfl rfl (runs_nx (r_asg (raw_start h7)) (runs_nx k3 (runs_rt (r_ret (raw_end h7 h1))))) rfl rfl
end
end K63

set_option Elab.async false
set_option linter.all false
set_option maxRecDepth 100000
namespace K63
open PF
def firstT : List (List Nat) → T
  | [] => .non
  | r :: _ => natT r
section
variable {n m : Nat} {f g : Nat → Nat → Int}
theorem c_check_both (t : Tab n f) (u : Tab m g) : C_check_both [.p (tabT n f), .p (tabT m g)] = some (.p .non, [none, none]) :=
  mk_nx (ρ0 := [.val (.p (tabT n f)), .val (.p (tabT m g))]) rfl rfl (runs_nx (r_exp (e_call (os := [none]) (ds := [.p (tabT n f)]) (a_rv (e_nm rfl) a_nil) rfl (c_check_table t) rfl)) (runs_one (r_exp (e_call (os := [none]) (ds := [.p (tabT m g)]) (a_rv (e_nm rfl) a_nil) rfl (c_check_table u) rfl)))) rfl rfl
theorem two_args {Γ : List CT} {a b : T} {r : List S} : evL Γ false [.nm 0, .nm 1] (.val (.p a) :: .val (.p b) :: r) = some ([D.p a, D.p b].map .rv, .val (.p a) :: .val (.p b) :: r) := a_rv (e_nm rfl) (a_rv (e_nm rfl) a_nil)
theorem c_fits_count (t : Tab n f) (u : Tab m g) : C_fits_count [.p (tabT n f), .p (tabT m g)] = some (.p (.int (lvl m (cF f g) n).length), [none, none]) := by
  refine mk_rt (ρ0 := [.val (.p (tabT n f)), .val (.p (tabT m g))]) rfl rfl (runs_nx (r_exp (e_call (os := [none, none]) two_args rfl (c_check_both t u) rfl)) (runs_rt (r_ret (e_un (e_call (os := [none, none]) two_args rfl (c_all_fits t.n7 u.n7) rfl) ?_)))) rfl rfl
  simp [opD, lenD, I]
theorem c_fits_in (t : Tab n f) (u : Tab m g) : C_fits_in [.p (tabT n f), .p (tabT m g)] = some (.p (firstT (lvl m (cF f g) n)), [none, none]) := by
  generalize hF : lvl m (cF f g) n = F
  have h1 : ev [C_check_both, C_all_fits] false (.op .gt [(.op .len [(.nm 2)]), (.cst (.int 0))]) [.val (.p (tabT n f)), .val (.p (tabT m g)), .val (.l (F.map encR))] = some (.rv (.p (.bl (decide (0 < F.length)))), [.val (.p (tabT n f)), .val (.p (tabT m g)), .val (.l (F.map encR))]) :=
    e_bin (e_un_nm (e_nml rfl) rfl (d := .p (.int F.length)) (by simp [opD, lenD, I])) e_cst (by simp [opD, cmpD, B])
  have h2 : ev [C_check_both, C_all_fits] false (.ifx (.op .gt [(.op .len [(.nm 2)]), (.cst (.int 0))]) (.idx (.nm 2) (.cst (.int 0))) (.cst .non)) [.val (.p (tabT n f)), .val (.p (tabT m g)), .val (.l (F.map encR))] = some (.rv (.p (firstT F)), [.val (.p (tabT n f)), .val (.p (tabT m g)), .val (.l (F.map encR))]) := by
    cases F with
    | nil => exact e_iff h1 e_cst
    | cons r F =>
      refine e_ift h1 ?_
      rw [ev_4, e_nml (show look _ 2 = .val (.l _) from rfl)]
      have e0 : L2.atI (List.map encR (r :: F)) 0 = some (encR r) := by simp [L2.atI, L2.ixN]
      simp only [e_cst, valR, look, e0]
      rfl
  have h3 := c_all_fits (f := f) (g := g) t.n7 u.n7
  rw [hF] at h3
  exact mk_rt (ρ0 := [.val (.p (tabT n f)), .val (.p (tabT m g)), .no]) rfl rfl (runs_nx (r_exp (e_call (os := [none, none]) two_args rfl (c_check_both t u) rfl)) (runs_nx (r_asg (e_call (os := [none, none]) two_args rfl h3 rfl)) (runs_rt (r_ret h2)))) rfl rfl
theorem c_keepers (t : Tab n f) : C_keepers [.p (tabT n f)] = some (.p (.tup ((lvl n (cF f f) n).map natT)), [none]) := by
  refine mk_rt (ρ0 := [.val (.p (tabT n f))]) rfl rfl (runs_nx (r_exp (e_call (os := [none]) (ds := [.p (tabT n f)]) (a_rv (e_nm rfl) a_nil) rfl (c_check_table t) rfl)) (runs_rt (r_ret (e_un (e_call (os := [none, none]) (ds := [.p (tabT n f), .p (tabT n f)]) (a_rv (e_nm rfl) (a_rv (e_nm rfl) a_nil)) rfl (c_all_names t.n7) rfl) ?_)))) rfl rfl
  simp only [opD, tupleD, seqT, items, pures_encR, Option.map_some]
theorem hand_l {h : D} (hh : IsHand h) : ∃ ds, h = .l ds := by obtain ⟨_, _, _, _, _, rfl⟩ := hh; exact ⟨_, rfl⟩
theorem c_law_any {h : D} (hh : IsHand h) {F : List (List Nat)} (h1 : 0 < F.length) (h2 : F.length < 2 ^ 60) : ∃ h' row o, IsHand h' ∧ row ∈ F ∧ C__law_any [h, .l (F.map encR)] = some (.p (natT row), [some h', o]) := by
  obtain ⟨r, h', e1, ⟨r0, r1⟩, hh'⟩ := c_draw hh (m := F.length) (by omega) (by
    rw [Int.natAbs_natCast]
    have := (Nat.log2_lt (n := F.length) (k := 60) (by omega)).mpr h2
    omega)
  obtain ⟨ds, rfl⟩ := hand_l hh
  obtain ⟨k, rfl⟩ : ∃ k : Nat, r = k := ⟨r.toNat, by omega⟩
  have hk : k < F.length := by omega
  have hi : ev [C__law_draw] false (.call 0 [(.nm 0), (.op .len [(.nm 1)])]) [.val (.l ds), .val (.l (F.map encR))] = some (.rv (.p (.int k)), [.val h', .val (.l (F.map encR))]) :=
    e_callh (os := [none]) (ds := [.p (.int F.length)]) (i := 0) (a_nm (e_nml rfl) (a_rv (e_un_nm (e_nml rfl) rfl (d := .p (.int F.length)) (by simp [opD, lenD, I])) a_nil)) rfl rfl e1 rfl
  have hx : ev [C__law_draw] false (.idx (.nm 1) (.call 0 [(.nm 0), (.op .len [(.nm 1)])])) [.val (.l ds), .val (.l (F.map encR))] = some (.rv (.p (natT F[k])), [.val h', .val (.l (F.map encR))]) := by
    rw [ev_4, e_nml (show look _ 1 = .val (.l _) from rfl)]
    simp only [lent, Bool.or_false, hi, valR, look, atI_nat (xs := F.map encR) (i := k) (by simpa using hk), List.getElem?_map, List.getElem?_eq_getElem hk, Option.map_some, encR]
  obtain ⟨ds', rfl⟩ := hand_l hh'
  exact ⟨.l ds', F[k], _, hh', List.getElem_mem hk, mk_rt (ρ0 := [.val (.l ds), .val (.l (F.map encR))]) rfl rfl (runs_rt (r_ret hx)) rfl rfl⟩
theorem lvl_nodup {m : Nat} {c : Nat → List Nat → Nat → Bool} (hc : ∀ p row x, c p row x = true → x ∉ row) : ∀ p, ∀ row ∈ lvl m c p, row.Nodup
  | 0, row, h => by simp [lvl] at h; subst h; exact .nil
  | p + 1, row, h => by
    simp only [lvl, List.mem_flatMap, ext, List.mem_map, List.mem_filter, List.mem_range] at h
    obtain ⟨r0, h1, x, ⟨h2, h3⟩, rfl⟩ := h
    have := lvl_nodup hc p r0 h1
    rw [List.nodup_append]
    refine ⟨this, by simp, fun a ha b hb e => ?_⟩
    simp at hb
    subst hb e
    exact hc p r0 _ h3 ha
theorem lvl_first (f : Nat → Nat → Int) : ∀ p, p ≤ n → ∃ r, lvl n (cF f f) p = List.range p :: r
  | 0, _ => ⟨[], rfl⟩
  | p + 1, hp => by
    obtain ⟨r, e⟩ := lvl_first f p (by omega)
    have h1 : (List.range n).filter (cF f f p (List.range p)) = p :: ((List.range (n - (p + 1))).map (· + (p + 1))).filter (cF f f p (List.range p)) := by
      have hs : List.range n = List.range p ++ p :: (List.range (n - (p + 1))).map (· + (p + 1)) := by
        refine List.ext_getElem (by simp; omega) fun i h1 h2 => ?_
        simp only [List.getElem_range, List.getElem_append, List.length_range]
        split
        · simp
        · rename_i hi
          rw [List.getElem_cons]
          split
          · omega
          · simp; omega
      rw [hs, List.filter_append]
      have h2 : (List.range p).filter (cF f f p (List.range p)) = [] := by
        rw [List.filter_eq_nil_iff]
        intro a ha
        simp [cF, List.mem_range.mp ha]
      have h3 : cF f f p (List.range p) p = true := by
        simp only [cF, List.mem_range, Nat.lt_irrefl, decide_false, Bool.not_false, Bool.true_and, List.all_eq_true]
        intro k hk
        simp [hk]
      rw [h2, List.nil_append, List.filter_cons, if_pos h3]
    exact ⟨_, by rw [lvl, e, List.flatMap_cons, ext, h1, List.map_cons, ← List.range_succ, List.cons_append]⟩
theorem lvl_none {c : Nat → List Nat → Nat → Bool} (hc : ∀ p row x, c p row x = true → x ∉ row) (h : m < n) : lvl m c n = [] := by
  refine List.eq_nil_iff_forall_not_mem.mpr fun row hr => ?_
  have h1 := lvl_len n row hr
  have := nodup_len (lvl_nodup hc n row hr) h1.2
  omega
theorem cF_no : ∀ p row x, cF f g p row x = true → x ∉ row := fun p row x h => by
  simp [cF] at h
  exact h.1
theorem cN_no : ∀ p row x, cN p row x = true → x ∉ row := fun p row x h => by
  simpa [cN] using h
/-! ### the law -/
def GL : List CT := [C__law_hand, C__law_raw, C__law_draw, C_part, C_renamed, C__law_any, C__law_names, C__law_fits, C_fits_count, C_fits_in, C_keepers]
theorem l_draw {h : D} (hh : IsHand h) {k : Int} (hk : 0 < k) (hk2 : k ≤ 5) {s0 : S} {rest : List S} : ∃ r h', IsHand h' ∧ (0 ≤ r ∧ r < k) ∧ ev GL false (.call 2 [(.nm 1), (.cst (.int k))]) (s0 :: .val h :: rest) = some (.rv (.p (.int r)), s0 :: .val h' :: rest) := by
  obtain ⟨r, h', e1, hr, hh'⟩ := c_draw hh hk (by
    have : k = 1 ∨ k = 2 ∨ k = 3 ∨ k = 4 ∨ k = 5 := by omega
    rcases this with rfl | rfl | rfl | rfl | rfl <;> decide)
  obtain ⟨ds, rfl⟩ := hand_l hh
  exact ⟨r, h', hh', hr, e_callh (os := [none]) (ds := [.p (.int k)]) (i := 1) (a_nm (e_nml rfl) (a_rv e_cst a_nil)) rfl rfl e1 rfl⟩
theorem l_raw {h : D} (hh : IsHand h) {k : Int} (hk : 0 < k) (hk2 : k ≤ 5) {s0 : S} {rest : List S} : ∃ (n : Nat) (g : Nat → Nat → Int) (h' : D), IsHand h' ∧ Tab n g ∧ n ≤ 5 ∧
    ev GL false (.call 1 [(.nm 1), (.op .add [(.cst (.int 1)), (.call 2 [(.nm 1), (.cst (.int k))])]), (.op .add [(.cst (.int 1)), (.call 2 [(.nm 1), (.cst (.int 3))])])]) (s0 :: .val h :: rest) = some (.rv (.p (tabT n g)), s0 :: .val h' :: rest) := by
  obtain ⟨r1, h1, hh1, b1, e1⟩ := l_draw hh hk hk2 (s0 := s0) (rest := rest)
  obtain ⟨r2, h2, hh2, b2, e2⟩ := l_draw hh1 (k := 3) (by decide) (by decide) (s0 := s0) (rest := rest)
  obtain ⟨n, hn⟩ : ∃ n : Nat, 1 + r1 = n := ⟨(1 + r1).toNat, by omega⟩
  obtain ⟨h3, g, hh3, tg, e3⟩ := c_law_raw hh2 (n := n) (top := 1 + r2) (by omega) (by omega) (by omega) (by omega)
  obtain ⟨ds, rfl⟩ := hand_l hh
  obtain ⟨ds2, rfl⟩ := hand_l hh2
  have ea : ev GL false (.op .add [(.cst (.int 1)), (.call 2 [(.nm 1), (.cst (.int k))])]) (s0 :: .val (.l ds) :: rest) = some (.rv (.p (.int n)), s0 :: .val h1 :: rest) := e_bin e_cst e1 (by rw [← hn]; rfl)
  have eb : ev GL false (.op .add [(.cst (.int 1)), (.call 2 [(.nm 1), (.cst (.int 3))])]) (s0 :: .val h1 :: rest) = some (.rv (.p (.int (1 + r2))), s0 :: .val (.l ds2) :: rest) := e_bin e_cst e2 rfl
  exact ⟨n, g, h3, hh3, tg, by omega, e_callh (os := [none, none]) (ds := [.p (.int n), .p (.int (1 + r2))]) (i := 1) (a_nm (e_nml rfl) (a_rv ea (a_rv eb a_nil))) rfl rfl e3 rfl⟩
/-- the places drawn -/
theorem l_lot {h : D} (hh : IsHand h) (h7 : n ≤ 7) {s0 s2 : S} : ∃ h' ys, IsHand h' ∧ (ys.Pairwise (· < ·) ∧ ∀ y ∈ ys, y < n) ∧ ev GL false (.op .tuple [(.comp (.nm 7) (.one 7) 1 [(.op .len [(.nm 3)])] [(.op .gt [(.call 2 [(.nm 1), (.cst (.int 3))]), (.cst (.int 0))])])]) [s0, .val h, s2, .val (.p (tabT n g)), .no, .no, .no, .no] =
    some (.rv (.p (natT ys)), [s0, .val h', s2, .val (.p (tabT n g)), .no, .no, .no, .no]) := by
  obtain ⟨ds, ρ2, e, h', ys, hh', hy, hd, hρ⟩ := ev_compI (Γ := GL) (q := false) (ρ := [s0, .val h, s2, .val (.p (tabT n g)), .no, .no, .no, .no]) (elt := .nm 7) (tg := .one 7) (kind := 1) (src := [(.op .len [(.nm 3)])]) (conds := [(.op .gt [(.call 2 [(.nm 1), (.cst (.int 3))]), (.cst (.int 0))])]) (rs := [.rv (.p (.int n))]) (w := .rng 0 n) (ρ1 := [s0, .val h, s2, .val (.p (tabT n g)), .no, .no, .no, .no]) (a_rv (len_tab rfl) a_nil) (by simp [srcK, valR, rngS, rngOk]; omega) (lim7 h7)
    (fun i acc ρ => ∃ h ys, IsHand h ∧ (ys.Pairwise (· < ·) ∧ ∀ y ∈ ys, y < i) ∧ acc = ys.map (fun (k : Nat) => D.p (.int (k : Int))) ∧ ρ = [s0, .val h, s2, .val (.p (tabT n g)), .no, .no, .no, .no]) ⟨h, [], hh, ⟨.nil, fun _ z => nomatch z⟩, rfl, rfl⟩ (fun i acc ρ hi ⟨h, ys, hh, hy, ha, hρ⟩ => by
      subst hρ ha
      obtain ⟨r, h', hh', b, e1⟩ := l_draw hh (k := 3) (by decide) (by decide) (s0 := s0) (rest := [s2, .val (.p (tabT n g)), .no, .no, .no, .val (.p (.int (i : Nat)))])
      have hi : i < n := hi
      refine ⟨.p (.int (i : Nat)), [s0, .val h, s2, .val (.p (tabT n g)), .no, .no, .no, .val (.p (.int (i : Nat)))], by simp [Wk.at, hi, I], rfl, ?_⟩
      have ec : evT GL false [(.op .gt [(.call 2 [(.nm 1), (.cst (.int 3))]), (.cst (.int 0))])] [s0, .val h, s2, .val (.p (tabT n g)), .no, .no, .no, .val (.p (.int (i : Nat)))] = some (decide (0 < r), [s0, .val h', s2, .val (.p (tabT n g)), .no, .no, .no, .val (.p (.int (i : Nat)))]) := by
        rw [evT_2, show ev GL false _ _ = _ from e_bin e1 e_cst (d := .p (.bl (decide (0 < r)))) rfl]
        rfl
      by_cases hr : 0 < r
      · rw [decide_eq_true hr] at ec
        refine .inr ⟨_, .rv (.p (.int (i : Nat))), _, .p (.int (i : Nat)), _, ec, e_nm rfl, rfl, h', ys ++ [i], hh', ⟨List.pairwise_append.mpr ⟨hy.1, List.pairwise_singleton _ _, fun a ha b hb => ?_⟩, fun y hm => ?_⟩, by simp, rfl⟩
        · simp at hb; subst hb; exact hy.2 a ha
        · rcases List.mem_append.mp hm with hm | hm
          · have := hy.2 y hm; omega
          · simp at hm; omega
      · rw [decide_eq_false hr] at ec
        exact .inl ⟨_, ec, h', ys, hh', ⟨hy.1, fun y hm => by have := hy.2 y hm; omega⟩, rfl, rfl⟩) (fun _ _ _ => rfl)
  subst hρ hd
  refine ⟨h', ys, hh', hy, e_un e ?_⟩
  simp only [opD, tupleD, seqT, items, pures_mapP ys fun (k : Nat) => T.int (k : Int), Option.map_some, natT]
end
end K63

set_option Elab.async false
set_option linter.all false
set_option maxRecDepth 100000
namespace K63
open PF
section
variable {n m : Nat} {f g : Nat → Nat → Int}
theorem l_part {h : D} (hh : IsHand h) (t : Tab n g) (u : Tab m f) {ys : List Nat} (hy : ys.Pairwise (· < ·) ∧ ∀ y ∈ ys, y < n) {s0 s2 : S} : ∃ (m' : Nat) (f' : Nat → Nat → Int) (h' : D), IsHand h' ∧ Tab m' f' ∧
    ev GL false (.ifx (.and_ (.op .ne [(.nm 4), (.tup [])]) (.op .eq [(.call 2 [(.nm 1), (.cst (.int 2))]), (.cst (.int 0))])) (.call 3 [(.nm 3), (.nm 4)]) (.nm 5)) [s0, .val h, s2, .val (.p (tabT n g)), .val (.p (natT ys)), .val (.p (tabT m f)), .no, .no] =
      some (.rv (.p (tabT m' f')), [s0, .val h', s2, .val (.p (tabT n g)), .val (.p (natT ys)), .val (.p (tabT m f)), .no, .no]) := by
  have ht : ev GL false (.tup []) [s0, .val h, s2, .val (.p (tabT n g)), .val (.p (natT ys)), .val (.p (tabT m f)), .no, .no] = some (.rv (.p (.tup [])), [s0, .val h, s2, .val (.p (tabT n g)), .val (.p (natT ys)), .val (.p (tabT m f)), .no, .no]) := by
    rw [show ev GL false (.tup _) _ = _ from ev_7 .., a_nil]
    have : 0 ≤ LIM := Nat.zero_le _
    simp [ownL, mkTup, pures]
  by_cases hne : ys = []
  · subst hne
    exact ⟨m, f, h, hh, u, e_iff (e_andf (e_bin (e_nm rfl) ht (x := .p (natT [])) rfl)) (e_nm rfl)⟩
  · have h1 : ev GL false (.op .ne [(.nm 4), (.tup [])]) [s0, .val h, s2, .val (.p (tabT n g)), .val (.p (natT ys)), .val (.p (tabT m f)), .no, .no] = some (.rv (.p (.bl true)), [s0, .val h, s2, .val (.p (tabT n g)), .val (.p (natT ys)), .val (.p (tabT m f)), .no, .no]) := by
      refine e_bin (e_nm rfl) ht (x := .p (natT ys)) ?_
      cases ys with
      | nil => exact absurd rfl hne
      | cons y r => simp [opD, eqOp, eqD, okT, natT, eqT, eqTs, B]
    obtain ⟨r, h', hh', b, e1⟩ := l_draw hh (k := 2) (by decide) (by decide) (s0 := s0) (rest := [s2, .val (.p (tabT n g)), .val (.p (natT ys)), .val (.p (tabT m f)), .no, .no])
    have h2 := e_bin e1 (e_cst (t := .int 0)) (o := .eq) (d := .p (.bl (decide (r = 0)))) (by simp [opD, eqOp, eqD, okT, eqT, B, beq_dec])
    by_cases hr : r = 0
    · rw [decide_eq_true hr] at h2
      have l : Lot n ys := ⟨hy.1, hy.2, hne⟩
      exact ⟨_, _, h', hh', t.part l, e_ift (e_andt h1 h2) (e_call (os := [none, none]) (ds := [.p (tabT n g), .p (natT ys)]) (a_rv (e_nm rfl) (a_rv (e_nm rfl) a_nil)) rfl (c_part t l) rfl)⟩
    · rw [decide_eq_false hr] at h2
      exact ⟨m, f, h', hh', u, e_iff (e_andt h1 h2) (e_nm rfl)⟩
theorem lvl_some (c : Nat → List Nat → Nat → Bool) (h : ∀ p, p < n → ∀ row ∈ lvl n c p, ∃ x, x < n ∧ c p row x = true) : ∀ p, p ≤ n → 0 < (lvl n c p).length
  | 0, _ => by simp [lvl]
  | p + 1, hp => by
    have ih := lvl_some c h p (by omega)
    obtain ⟨row, hr⟩ := List.exists_mem_of_length_pos ih
    obtain ⟨x, hx, hc⟩ := h p (by omega) row hr
    refine List.length_pos_of_mem (a := row ++ [x]) ?_
    simp only [lvl, List.mem_flatMap, ext, List.mem_map, List.mem_filter, List.mem_range]
    exact ⟨row, hr, x, ⟨hx, hc⟩, rfl⟩
theorem sub_len : ∀ (n : Nat) (row : List Nat), (∀ x, x < n → x ∈ row) → n ≤ row.length
  | 0, _, _ => Nat.zero_le _
  | n + 1, row, h => by
    have hm := h n (by omega)
    have ih := sub_len n (row.erase n) fun x hx => (List.mem_erase_of_ne (by omega)).mpr (h x (by omega))
    rw [List.length_erase_of_mem hm] at ih
    have := List.length_pos_of_mem hm
    omega
theorem names_pos (n : Nat) : 0 < (lvl n cN n).length := by
  refine lvl_some cN (fun p hp row hr => ?_) n (Nat.le_refl n)
  have h1 := lvl_len p row hr
  by_cases hx : ∃ x, x < n ∧ x ∉ row
  · obtain ⟨x, hx, hn⟩ := hx
    exact ⟨x, hx, by simp [cN, hn]⟩
  · have hall : ∀ x, x < n → x ∈ row := fun x hx' => Classical.byContradiction fun z => hx ⟨x, hx', z⟩
    have := sub_len n row hall
    omega
theorem l_ren {h : D} (hh : IsHand h) (u : Tab m f) {s0 s2 s3 s4 : S} : ∃ (f' : Nat → Nat → Int) (h' : D), IsHand h' ∧ Tab m f' ∧
    ev GL false (.call 4 [(.nm 5), (.call 5 [(.nm 1), (.call 6 [(.op .len [(.nm 5)])])])]) [s0, .val h, s2, s3, s4, .val (.p (tabT m f)), .no, .no] = some (.rv (.p (tabT m f')), [s0, .val h', s2, s3, s4, .val (.p (tabT m f)), .no, .no]) := by
  have hl : (lvl m cN m).length < 2 ^ 60 := by
    have := lvl_lim (c := cN) u.n7 u.n7 (Nat.le_refl m)
    have h5 : LIM = 16777216 := rfl
    omega
  obtain ⟨h', row, o, hh', hr, e1⟩ := c_law_any hh (names_pos m) hl
  have p : Pm m row := ⟨(lvl_len m row hr).1, lvl_nodup cN_no m row hr, (lvl_len m row hr).2⟩
  obtain ⟨ds, rfl⟩ := hand_l hh
  have e6 : ev GL false (.call 6 [(.op .len [(.nm 5)])]) [s0, .val (.l ds), s2, s3, s4, .val (.p (tabT m f)), .no, .no] = some (.rv (.l ((lvl m cN m).map encR)), [s0, .val (.l ds), s2, s3, s4, .val (.p (tabT m f)), .no, .no]) :=
    e_call (os := [none]) (ds := [.p (.int m)]) (a_rv (len_tab rfl) a_nil) rfl (c_law_names u.n7) rfl
  have e5 : ev GL false (.call 5 [(.nm 1), (.call 6 [(.op .len [(.nm 5)])])]) [s0, .val (.l ds), s2, s3, s4, .val (.p (tabT m f)), .no, .no] = some (.rv (.p (natT row)), [s0, .val h', s2, s3, s4, .val (.p (tabT m f)), .no, .no]) :=
    e_callh (os := [o]) (ds := [.l ((lvl m cN m).map encR)]) (i := 1) (a_nm (e_nml rfl) (a_rv e6 a_nil)) rfl rfl e1 rfl
  exact ⟨_, h', hh', u.ren p, e_call (os := [none, none]) (ds := [.p (tabT m f), .p (natT row)]) (a_rv (e_nm rfl) (a_rv e5 a_nil)) rfl (c_renamed u p) rfl⟩
theorem first_eq (F : List (List Nat)) : eqD (.p (firstT F)) (.p (firstT F)) = some true := by
  have h : okT 32 (firstT F) = true := by
    cases F with
    | nil => rfl
    | cons r F => simp [firstT, natT, okT]
  simp only [eqD, h, Bool.true_or, if_true, eqT_refl]
theorem int_ne (a : Int) : opD .ne [.p (.int a), .p (.int a)] = some (.p (.bl false)) := by
  simp [opD, eqOp, eqD, okT, eqT, B]
theorem ne_nil (F : List (List Nat)) : opD .ne [.l (F.map encR), .l []] = some (.p (.bl (!F.isEmpty))) := by
  have ok : okD (.l []) = true := rfl
  have hp : items (.l (F.map encR)) = some (F.map natT) := pures_encR F
  have hp2 : items (.l []) = some [] := rfl
  simp only [opD, eqOp, eqD, ok, Bool.or_true, if_true, hp, hp2, Option.map_some, B]
  cases F <;> rfl
section
variable {ρ : List S} {F : List (List Nat)}
theorem d_ne (h6 : look ρ 6 = .val (.l (F.map encR))) : ev GL false (.op .ne [(.nm 6), (.lst [])]) ρ = some (.rv (.p (.bl (!F.isEmpty))), ρ) := by
  have hl : ev GL false (.lst []) ρ = some (.rv (.l []), ρ) := by
    rw [show ev GL false (.lst _) _ = _ from ev_8 .., a_nil]
    simp [ownL]
  exact e_bin_nm (e_nml h6) hl h6 (ne_nil F)
theorem d_first (h6 : look ρ 6 = .val (.l (F.map encR))) : ev GL false (.ifx (.op .ne [(.nm 6), (.lst [])]) (.idx (.nm 6) (.cst (.int 0))) (.cst .non)) ρ = some (.rv (.p (firstT F)), ρ) := by
  cases F with
  | nil => exact e_iff (d_ne h6) e_cst
  | cons r F =>
    refine e_ift (d_ne h6) ?_
    have e0 : L2.atI (List.map encR (r :: F)) 0 = some (encR r) := by simp [L2.atI, L2.ixN]
    rw [ev_4, e_nml h6]
    simp only [e_cst, valR, h6, e0]
    rfl
end
theorem l_one (t : Tab n g) (u : Tab m f) {s0 s1 s2 s4 : S} : ev GL false (.or_ (.op .ne [(.call 9 [(.nm 5), (.nm 3)]), (.ifx (.op .ne [(.nm 6), (.lst [])]) (.idx (.nm 6) (.cst (.int 0))) (.cst .non))]) (.op .ne [(.call 8 [(.nm 5), (.nm 3)]), (.op .len [(.nm 6)])]))
    [s0, s1, s2, .val (.p (tabT n g)), s4, .val (.p (tabT m f)), .val (.l ((lvl n (cF f g) m).map encR)), .no] = some (.rv (.p (.bl false)), [s0, s1, s2, .val (.p (tabT n g)), s4, .val (.p (tabT m f)), .val (.l ((lvl n (cF f g) m).map encR)), .no]) := by
  refine e_orf (e_bin (e_call (os := [none, none]) (ds := [.p (tabT m f), .p (tabT n g)]) (a_rv (e_nm rfl) (a_rv (e_nm rfl) a_nil)) rfl (c_fits_in u t) rfl) (d_first rfl) (d := .p (.bl false)) ?_)
    (e_bin (e_call (os := [none, none]) (ds := [.p (tabT m f), .p (tabT n g)]) (a_rv (e_nm rfl) (a_rv (e_nm rfl) a_nil)) rfl (c_fits_count u t) rfl) (e_un_nm (e_nml rfl) rfl (d := .p (.int (lvl n (cF f g) m).length)) ?_) (int_ne _))
  · simp only [opD, eqOp, first_eq, Option.map_some, if_true, Bool.not_true, B]
  · simp [opD, lenD, I]
theorem l_two (t : Tab n g) {s0 s1 s2 s4 s5 s6 : S} : ev GL false (.or_ (.op .ne [(.call 8 [(.nm 3), (.nm 3)]), (.op .len [(.call 10 [(.nm 3)])])]) (.op .ne [(.call 9 [(.nm 3), (.nm 3)]), (.op .trng1 [(.op .len [(.nm 3)])])]))
    [s0, s1, s2, .val (.p (tabT n g)), s4, s5, s6, .no] = some (.rv (.p (.bl false)), [s0, s1, s2, .val (.p (tabT n g)), s4, s5, s6, .no]) := by
  obtain ⟨r, hr⟩ := lvl_first (n := n) g n (Nat.le_refl n)
  have e1 := c_fits_in t t
  have hf : firstT (lvl n (cF g g) n) = natT (List.range n) := by rw [hr]; rfl
  rw [hf] at e1
  have hL := lim7 t.n7
  have h7 := t.n7
  refine e_orf (e_bin (e_call (os := [none, none]) (ds := [.p (tabT n g), .p (tabT n g)]) (a_rv (e_nm rfl) (a_rv (e_nm rfl) a_nil)) rfl (c_fits_count t t) rfl) (e_un (e_call (os := [none]) (ds := [.p (tabT n g)]) (a_rv (e_nm rfl) a_nil) rfl (c_keepers t) rfl) (d := .p (.int (lvl n (cF g g) n).length)) ?_) (int_ne _))
    (e_bin (e_call (os := [none, none]) (ds := [.p (tabT n g), .p (tabT n g)]) (a_rv (e_nm rfl) (a_rv (e_nm rfl) a_nil)) rfl e1 rfl) (e_un (len_tab rfl) (d := .p (natT (List.range n))) ?_) ?_)
  · simp [opD, lenD, I]
  · have : rngOk 0 (n : Int) = true := by simp [rngOk]; omega
    simp only [opD, trng1D, this, Int.toNat_natCast, hL, decide_true, Bool.and_self, if_true, rngL, natT, Int.sub_zero]
    simp
  · have ok : okT 32 (natT (List.range n)) = true := by simp [natT, okT]
    simp only [opD, eqOp, eqD, ok, Bool.true_or, if_true, eqT_refl, Option.map_some, Bool.not_true, B]
theorem l_three (t : Tab n g) (u : Tab m f) {s0 s1 s2 s4 : S} : ev GL false (.and_ (.op .lt [(.op .len [(.nm 3)]), (.op .len [(.nm 5)])]) (.op .ne [(.nm 6), (.lst [])]))
    [s0, s1, s2, .val (.p (tabT n g)), s4, .val (.p (tabT m f)), .val (.l ((lvl n (cF f g) m).map encR)), .no] = some (.rv (.p (.bl false)), [s0, s1, s2, .val (.p (tabT n g)), s4, .val (.p (tabT m f)), .val (.l ((lvl n (cF f g) m).map encR)), .no]) := by
  have h1 : ev GL false (.op .lt [(.op .len [(.nm 3)]), (.op .len [(.nm 5)])]) [s0, s1, s2, .val (.p (tabT n g)), s4, .val (.p (tabT m f)), .val (.l ((lvl n (cF f g) m).map encR)), .no] = some (.rv (.p (.bl (decide (n < m)))), [s0, s1, s2, .val (.p (tabT n g)), s4, .val (.p (tabT m f)), .val (.l ((lvl n (cF f g) m).map encR)), .no]) :=
    e_bin (len_tab rfl) (len_tab rfl) (by simp [opD, cmpD, B])
  by_cases h : n < m
  · rw [decide_eq_true h] at h1
    refine e_andt h1 ?_
    have := d_ne (ρ := [s0, s1, s2, .val (.p (tabT n g)), s4, .val (.p (tabT m f)), .val (.l ((lvl n (cF f g) m).map encR)), .no]) (F := lvl n (cF f g) m) rfl
    rw [lvl_none cF_no h] at this ⊢
    exact this
  · rw [decide_eq_false h] at h1
    exact e_andf h1
theorem l_due (t : Tab n g) (u : Tab m f) {s0 s1 s2 s4 : S} : ev GL false (.call 7 [(.nm 5), (.nm 3)]) [s0, s1, s2, .val (.p (tabT n g)), s4, .val (.p (tabT m f)), .no, .no] = some (.rv (.l ((lvl n (cF f g) m).map encR)), [s0, s1, s2, .val (.p (tabT n g)), s4, .val (.p (tabT m f)), .no, .no]) :=
  e_call (os := [none, none]) (ds := [.p (tabT m f), .p (tabT n g)]) (a_rv (e_nm rfl) (a_rv (e_nm rfl) a_nil)) rfl (c__law_fits u.n7 t.n7) rfl
def TB : List PF.St := [.asg 3 (.call 1 [(.nm 1), (.op .add [(.cst (.int 1)), (.call 2 [(.nm 1), (.cst (.int 5))])]), (.op .add [(.cst (.int 1)), (.call 2 [(.nm 1), (.cst (.int 3))])])]), .asg 4 (.op .tuple [(.comp (.nm 7) (.one 7) 1 [(.op .len [(.nm 3)])] [(.op .gt [(.call 2 [(.nm 1), (.cst (.int 3))]), (.cst (.int 0))])])]), .asg 5 (.call 1 [(.nm 1), (.op .add [(.cst (.int 1)), (.call 2 [(.nm 1), (.cst (.int 4))])]), (.op .add [(.cst (.int 1)), (.call 2 [(.nm 1), (.cst (.int 3))])])]), .asg 5 (.ifx (.and_ (.op .ne [(.nm 4), (.tup [])]) (.op .eq [(.call 2 [(.nm 1), (.cst (.int 2))]), (.cst (.int 0))])) (.call 3 [(.nm 3), (.nm 4)]) (.nm 5)), .asg 5 (.call 4 [(.nm 5), (.call 5 [(.nm 1), (.call 6 [(.op .len [(.nm 5)])])])]), .asg 6 (.call 7 [(.nm 5), (.nm 3)]), .ite (.or_ (.op .ne [(.call 9 [(.nm 5), (.nm 3)]), (.ifx (.op .ne [(.nm 6), (.lst [])]) (.idx (.nm 6) (.cst (.int 0))) (.cst .non))]) (.op .ne [(.call 8 [(.nm 5), (.nm 3)]), (.op .len [(.nm 6)])])) [.ret (.cst (.bl false))] [], .ite (.or_ (.op .ne [(.call 8 [(.nm 3), (.nm 3)]), (.op .len [(.call 10 [(.nm 3)])])]) (.op .ne [(.call 9 [(.nm 3), (.nm 3)]), (.op .trng1 [(.op .len [(.nm 3)])])])) [.ret (.cst (.bl false))] [], .ite (.and_ (.op .lt [(.op .len [(.nm 3)]), (.op .len [(.nm 5)])]) (.op .ne [(.nm 6), (.lst [])])) [.ret (.cst (.bl false))] []]
theorem l_turn {h : D} (hh : IsHand h) {s0 s2 : S} : ∃ h' ρ', IsHand h' ∧ runs GL TB [s0, .val h, s2, .no, .no, .no, .no, .no] = some (.nx ρ') ∧ kill ρ' [2, 3, 4, 5, 6] = [s0, .val h', .no, .no, .no, .no, .no, .no] := by
  obtain ⟨n, g, h1, hh1, t, hn, e1⟩ := l_raw hh (k := 5) (by decide) (by decide) (s0 := s0) (rest := [s2, .no, .no, .no, .no, .no])
  obtain ⟨h2, ys, hh2, hy, e2⟩ := l_lot (n := n) (g := g) hh1 t.n7 (s0 := s0) (s2 := s2)
  obtain ⟨m0, f0, h3, hh3, u0, hm, e3⟩ := l_raw hh2 (k := 4) (by decide) (by decide) (s0 := s0) (rest := [s2, .val (.p (tabT n g)), .val (.p (natT ys)), .no, .no, .no])
  obtain ⟨m1, f1, h4, hh4, u1, e4⟩ := l_part hh3 t u0 hy (s0 := s0) (s2 := s2)
  obtain ⟨f2, h5, hh5, u2, e5⟩ := l_ren hh4 u1 (s0 := s0) (s2 := s2) (s3 := .val (.p (tabT n g))) (s4 := .val (.p (natT ys)))
  have e6 := l_due t u2 (s0 := s0) (s1 := .val h5) (s2 := s2) (s4 := .val (.p (natT ys)))
  have e7 := l_one t u2 (s0 := s0) (s1 := .val h5) (s2 := s2) (s4 := .val (.p (natT ys)))
  have e8 := l_two t (s0 := s0) (s1 := .val h5) (s2 := s2) (s4 := .val (.p (natT ys))) (s5 := .val (.p (tabT m1 f2))) (s6 := .val (.l ((lvl n (cF f2 g) m1).map encR)))
  have e9 := l_three t u2 (s0 := s0) (s1 := .val h5) (s2 := s2) (s4 := .val (.p (natT ys)))
  exact ⟨h5, _, hh5, runs_nx (r_asg e1) (runs_nx (r_asg e2) (runs_nx (r_asg e3) (runs_nx (r_asg e4) (runs_nx (r_asg e5) (runs_nx (r_asg e6) (runs_nx (run_ite_f (t_rv e7) runs_0) (runs_nx (run_ite_f (t_rv e8) runs_0) (runs_one (run_ite_f (t_rv e9) runs_0))))))))), rfl⟩
theorem law_ev (ns : List Int) (hn : ns.length ≤ 63) : ∃ os, C_law [ro ns] = some (B true, os) := by
  obtain ⟨h, e0, hh⟩ := c__law_hand hn
  have e1 : ev GL false (.call 0 [(.nm 0)]) [.val (ro ns), .no, .no, .no, .no, .no, .no, .no] = some (.rv h, [.val (ro ns), .no, .no, .no, .no, .no, .no, .no]) := by
    have e00 : ev GL false (.nm 0) [.val (ro ns), .no, .no, .no, .no, .no, .no, .no] = some (.nm 0, [.val (ro ns), .no, .no, .no, .no, .no, .no, .no]) := by
      rw [ev_1]; rfl
    exact e_callh (os := []) (ds := []) (i := 0) (a_nm e00 a_nil) rfl rfl e0 rfl
  obtain ⟨ρ', hr, h', hh', hρ⟩ := run_forI (Γ := GL) (tg := .one 2) (kind := 1) (src := [(.cst (.int 4))]) (body := TB) (dead := [2, 3, 4, 5, 6]) (rs := [.rv (.p (.int 4))]) (w := .rng 0 4)
    (ρ := [.val (ro ns), .val h, .no, .no, .no, .no, .no, .no]) (ρ1 := [.val (ro ns), .val h, .no, .no, .no, .no, .no, .no]) (a_rv e_cst a_nil) rfl rfl (fun _ ρ => ∃ h, IsHand h ∧ ρ = [.val (ro ns), .val h, .no, .no, .no, .no, .no, .no]) ⟨h, hh, rfl⟩ (fun k ρ hk ⟨h, hh, hρ⟩ => by
      subst hρ
      have hk : k < 4 := hk
      obtain ⟨h', ρ', hh', e, ek⟩ := l_turn hh (s0 := .val (ro ns)) (s2 := .val (.p (.int (k : Nat))))
      exact ⟨.p (.int (k : Nat)), _, _, _, by simp [Wk.at, hk, I], rfl, e, congrArg Out.nx ek, h', hh', rfl⟩) (fun _ _ => rfl)
  subst hρ
  exact ⟨_, mk_rt (ρ0 := [.val (ro ns), .no, .no, .no, .no, .no, .no, .no]) rfl rfl (runs_nx (r_asg e1) (runs_nx hr (runs_rt (r_ret e_cst)))) rfl rfl⟩
end
end K63

theorem PySem.Challenge.cw_farhouse_k63_whole_tables_that_fit_in_ot_holds : PySem.Challenge.rw_farhouse_k63_whole_tables_that_fit_in_ot.Holds := by
  exact K63.claim K63.law_ev
